/- DuelWord: the program and the reference tell the same word of every list and every text (of longer ones than 1048576 the law says nothing), and what came in stays as it was. -/
import Derived.Test.YtgilgogjffnodaaXa12
import Derived.Test.YtgilgogjffnodaaXaHduel
import Derived.Test.YtgilgogjffnodaaXaHspecval
import Derived.Test.YtgilgogjffnodaaXaHbest
import Derived.Test.YtgilgogjffnodaaXaHdword
import Derived.Test.YtgilgogjffnodaaXaHsclone
import Derived.Test.YtgilgogjffnodaaXa2
import Derived.Test.YtgilgogjffnodaaXa3
import Derived.Test.YtgilgogjffnodaaXa7
import Derived.Test.YtgilgogjffnodaaXa4
import Derived.Test.YtgilgogjffnodaaXa11
import Derived.Test.YtgilgogjffnodaaXa10
import Derived.Test.YtgilgogjffnodaaXa1
import Derived.Test.YtgilgogjffnodaaXa6
import Derived.Test.YtgilgogjffnodaaPk
set_option linter.unusedVariables false
set_option linter.unusedSimpArgs false
namespace Go.Proofs.Ytgilgogjffnodaa.Pure
open Go.RowKit Go.Proofs.Ytgilgogjffnodaa.Xa Go.Proofs.YtgilgogjffnodaaW.PrintWords Go.Proofs.YtgilgogjffnodaaW.PrintLast Go.Proofs.Ytgilgogjffnodaa.Pk

theorem ev_l1In' (a b c : Int) : spec_l1In.f a b c = some (decide (b ≤ a) && decide (a ≤ c)) := by
  unfold spec_l1In.f
  by_cases h : b ≤ a
  · rw [if_pos h, decide_eq_true h, Bool.true_and]
  · rw [if_neg h, decide_eq_false h, Bool.false_and]
/-! ### is a list an order? -/
theorem ev_l1Has_l0 (l : List Int) (x : Int) (hl : l.length < 9223372036854775807) (d : Nat) : ∀ j : Nat, j + d = l.length → Ev (fun k => spec_l1Has.l0 k l x (j : Int)) ((l.drop j).contains x) := by
  induction d with
  | zero =>
    intro j hj
    have c : ¬ (j : Int) < (l.length : Int) := by omega
    rw [List.drop_of_length_le (by omega)]
    exact Ev.step (fun k => by simp only [spec_l1Has.l0, c, ↓reduceIte] <;> rfl) (Ev.now _)
  | succ d ih =>
    intro j hj
    have c : (j : Int) < (l.length : Int) := by omega
    have c0 : 0 ≤ (j : Int) := by omega
    have e1 : wrap64 ((j : Int) + 1) = ((j + 1 : Nat) : Int) := wj (by omega)
    rw [rd_drop l j (by omega), List.contains_cons]
    by_cases h : rd l (j : Int) = x
    · have : (x == rd l (j : Int)) = true := by rw [h]; exact beq_self_eq_true x
      rw [this, Bool.true_or]
      exact Ev.step (fun k => by simp only [spec_l1Has.l0, c, c0, h, ↓reduceIte] <;> rfl) (Ev.now _)
    · have : (x == rd l (j : Int)) = false := beq_eq_false_iff_ne.2 (fun e => h e.symm)
      rw [this, Bool.false_or]
      exact Ev.step (fun k => by simp only [spec_l1Has.l0, c, c0, h, e1, ↓reduceIte]) (ih (j + 1) (by omega))
theorem ev_l1Has (l : List Int) (x : Int) (hl : l.length < 9223372036854775807) : Ev (fun k => spec_l1Has.f k l x) (l.contains x) := by
  have := ev_l1Has_l0 l x hl l.length 0 (by omega)
  rw [List.drop_zero] at this
  exact this
theorem ev_l2Order_l0 (l : List Int) (hl : l.length ≤ 7) (d : Nat) : ∀ j : Nat, j + d = l.length → Ev (fun k => spec_l2Order.l0 k l (j : Int)) (chk l.length (l.take j) (l.drop j)) := by
  induction d with
  | zero =>
    intro j hj
    have c : ¬ (j : Int) < (l.length : Int) := by omega
    rw [List.drop_of_length_le (by omega)]
    exact Ev.step (fun k => by simp only [spec_l2Order.l0, c, ↓reduceIte] <;> rfl) (Ev.now _)
  | succ d ih =>
    intro j hj
    have c : (j : Int) < (l.length : Int) := by omega
    have c0 : 0 ≤ (j : Int) := by omega
    have c1 : (j : Int) ≤ (l.length : Int) := by omega
    have e1 : wrap64 ((j : Int) + 1) = ((j + 1 : Nat) : Int) := wj (by omega)
    rw [rd_drop l j (by omega), chk, ← take_succ l j (by omega)]
    by_cases h : (decide (1 ≤ rd l (j : Int)) && decide (rd l (j : Int) ≤ (l.length : Int))) = true
    · rw [h, Bool.true_and]
      refine Ev.step (f := fun k => (spec_l1Has.f k (l.take j) (rd l (j : Int))).bind fun t => if t = true then some false else spec_l2Order.l0 k l ((j + 1 : Nat) : Int)) (fun k => by simp only [spec_l2Order.l0, c, c0, c1, ev_l1In', h, e1, Option.bind_some, Int.toNat_natCast, ↓reduceIte]) ?_
      refine Ev.bind (ev_l1Has (l.take j) _ (by rw [List.length_take]; omega)) ?_
      cases hc : (l.take j).contains (rd l (j : Int)) with
      | true =>
        simp only [↓reduceIte, Bool.not_true, Bool.false_and]
        exact Ev.now _
      | false =>
        simp only [Bool.false_eq_true, ↓reduceIte, Bool.not_false, Bool.true_and]
        exact ih (j + 1) (by omega)
    · have h' := Bool.eq_false_iff.2 h
      rw [h', Bool.false_and, Bool.false_and]
      exact Ev.step (fun k => by simp only [spec_l2Order.l0, c, c0, ev_l1In', h', Option.bind_some, Bool.false_eq_true, ↓reduceIte] <;> rfl) (Ev.now _)
theorem ev_l2Order (l : List Int) : Ev (fun k => spec_l2Order.f k l) (ordB l) := by
  unfold spec_l2Order.f ordB
  simp only [ev_l1In', Option.bind_some]
  by_cases h1 : 1 ≤ l.length
  · have g1 : (1 : Int) ≤ (l.length : Int) := by omega
    by_cases h7 : l.length ≤ 7
    · have g7 : (l.length : Int) ≤ 7 := by omega
      have := ev_l2Order_l0 l h7 l.length 0 (by omega)
      simp only [h1, h7, g1, g7, decide_true, Bool.and_true, Bool.true_and, ↓reduceIte]
      rw [List.take_zero, List.drop_zero] at this
      exact this
    · have g7 : ¬ (l.length : Int) ≤ 7 := by omega
      simp only [h7, g7, decide_false, Bool.and_false, Bool.false_and, Bool.false_eq_true, ↓reduceIte]
      exact Ev.now _
  · have g1 : ¬ (1 : Int) ≤ (l.length : Int) := by omega
    simp only [h1, g1, decide_false, Bool.false_and, Bool.false_eq_true, ↓reduceIte]
    exact Ev.now _
theorem ev_Index_l0 (l : List Int) (x : Int) (hl : l.length < 9223372036854775807) (d : Nat) : ∀ j : Nat, j + d = l.length → ∃ r : Int, Ev (fun k => slices_Index_int_int.l0 k l x (l.length : Int) (j : Int)) r ∧ decide (r ≥ 0) = (l.drop j).contains x := by
  induction d with
  | zero =>
    intro j hj
    have c : ¬ (j : Int) < (l.length : Int) := by omega
    rw [List.drop_of_length_le (by omega)]
    exact ⟨-1, Ev.step (fun k => by simp only [slices_Index_int_int.l0, c, ↓reduceIte] <;> rfl) (Ev.now _), rfl⟩
  | succ d ih =>
    intro j hj
    have c : (j : Int) < (l.length : Int) := by omega
    have c0 : 0 ≤ (j : Int) := by omega
    have e1 : wrap64 ((j : Int) + 1) = ((j + 1 : Nat) : Int) := wj (by omega)
    rw [rd_drop l j (by omega), List.contains_cons]
    by_cases h : x = rd l (j : Int)
    · have : (x == rd l (j : Int)) = true := beq_iff_eq.2 h
      rw [this, Bool.true_or]
      exact ⟨j, Ev.step (fun k => by simp only [slices_Index_int_int.l0, c, c0, ↓reduceIte]; rw [if_pos h]) (Ev.now _), by simp⟩
    · have : (x == rd l (j : Int)) = false := beq_eq_false_iff_ne.2 h
      rw [this, Bool.false_or]
      obtain ⟨r, hr, hd⟩ := ih (j + 1) (by omega)
      exact ⟨r, Ev.step (fun k => by simp only [slices_Index_int_int.l0, c, c0, h, e1, ↓reduceIte]) hr, hd⟩
theorem ev_Contains (l : List Int) (x : Int) (hl : l.length < 9223372036854775807) : Ev (fun k => slices_Contains_int_int.f k l x) (l.contains x) := by
  obtain ⟨r, hr, hd⟩ := ev_Index_l0 l x hl l.length 0 (by omega)
  rw [List.drop_zero] at hd
  unfold slices_Contains_int_int.f slices_Index_int_int.f
  refine Ev.bind hr ?_
  rw [hd]
  exact Ev.now _
theorem ev_isOrder_l0 (l : List Int) (hl : l.length ≤ 7) (d : Nat) : ∀ j : Nat, j + d = l.length → Ev (fun k => impl_isOrder.l0 k l l (l.length : Int) (j : Int)) (chk l.length (l.take j) (l.drop j)) := by
  induction d with
  | zero =>
    intro j hj
    have c : ¬ (j : Int) < (l.length : Int) := by omega
    rw [List.drop_of_length_le (by omega)]
    exact Ev.step (fun k => by simp only [impl_isOrder.l0, c, ↓reduceIte] <;> rfl) (Ev.now _)
  | succ d ih =>
    intro j hj
    have c : (j : Int) < (l.length : Int) := by omega
    have c0 : 0 ≤ (j : Int) := by omega
    have c1 : (j : Int) ≤ (l.length : Int) := by omega
    have e1 : wrap64 ((j : Int) + 1) = ((j + 1 : Nat) : Int) := wj (by omega)
    rw [rd_drop l j (by omega), chk, ← take_succ l j (by omega)]
    by_cases h1 : 1 ≤ rd l (j : Int)
    · have g1 : ¬ rd l (j : Int) < 1 := by omega
      by_cases h2 : rd l (j : Int) ≤ (l.length : Int)
      · have g2 : ¬ rd l (j : Int) > (l.length : Int) := by omega
        simp only [h1, h2, decide_true, Bool.true_and]
        refine Ev.step (f := fun k => (slices_Contains_int_int.f k (l.take j) (rd l (j : Int))).bind fun t => if t = true then some false else impl_isOrder.l0 k l l (l.length : Int) ((j + 1 : Nat) : Int)) (fun k => by simp only [impl_isOrder.l0, c, c0, c1, g1, g2, e1, Int.toNat_natCast, ↓reduceIte]) ?_
        refine Ev.bind (ev_Contains (l.take j) _ (by rw [List.length_take]; omega)) ?_
        cases hc : (l.take j).contains (rd l (j : Int)) with
        | true =>
          simp only [↓reduceIte, Bool.not_true, Bool.false_and]
          exact Ev.now _
        | false =>
          simp only [Bool.false_eq_true, ↓reduceIte, Bool.not_false, Bool.true_and]
          exact ih (j + 1) (by omega)
      · have g2 : rd l (j : Int) > (l.length : Int) := by omega
        simp only [h2, decide_false, Bool.and_false, Bool.false_and]
        exact Ev.step (fun k => by simp only [impl_isOrder.l0, c, c0, g1, g2, ↓reduceIte] <;> rfl) (Ev.now _)
    · have g1 : rd l (j : Int) < 1 := by omega
      simp only [h1, decide_false, Bool.false_and]
      exact Ev.step (fun k => by simp only [impl_isOrder.l0, c, c0, g1, ↓reduceIte] <;> rfl) (Ev.now _)
theorem ev_isOrder (l : List Int) : Ev (fun k => impl_isOrder.f k l) (ordB l) := by
  unfold impl_isOrder.f ordB
  by_cases h1 : 1 ≤ l.length
  · have g1 : ¬ (l.length : Int) < 1 := by omega
    by_cases h7 : l.length ≤ 7
    · have g7 : ¬ (l.length : Int) > 7 := by omega
      have := ev_isOrder_l0 l h7 l.length 0 (by omega)
      simp only [h1, h7, g1, g7, decide_true, decide_false, Bool.true_and, ↓reduceIte]
      refine Ev.step (fun k => by simp only [impl_isOrder.j0, Bool.false_eq_true, ↓reduceIte] <;> rfl) ?_
      rw [List.take_zero, List.drop_zero] at this
      exact this
    · have g7 : (l.length : Int) > 7 := by omega
      simp only [h7, g1, g7, decide_true, decide_false, Bool.and_false, Bool.false_and, ↓reduceIte]
      exact Ev.step (fun k => by simp only [impl_isOrder.j0, ↓reduceIte] <;> rfl) (Ev.now _)
  · have g1 : (l.length : Int) < 1 := by omega
    simp only [h1, g1, decide_false, Bool.false_and, ↓reduceIte]
    exact Ev.step (fun k => by simp only [impl_isOrder.j0, ↓reduceIte] <;> rfl) (Ev.now _)
/-! ### what the reference and the program tell of beginnings -/
def begR : Option (Int × Int) → Int
  | some (p, q) => p - q
  | none => -1
theorem ev_l1In (a b c : Int) : spec_l1In.f a b c = some (decide (b ≤ a) && decide (a ≤ c)) := by
  unfold spec_l1In.f
  by_cases h : b ≤ a
  · rw [if_pos h, decide_eq_true h, Bool.true_and]
  · rw [if_neg h, decide_eq_false h, Bool.false_and]
theorem ev_l11In_l0 (n : Int) (s : ByteArray) (hn0 : 1 ≤ n) (hn6 : n ≤ 6) (hs : s.size ≤ 1048576) (d : Nat) : ∀ (j : Nat) (p q : Int), j + d = s.size → 0 ≤ q → q ≤ p → p ≤ n →
    Ev (fun k => spec_l11In.l0 k n s (p - q) p (j : Int)) (begR (beg n ((bs s).drop j) p q)) := by
  induction d with
  | zero =>
    intro j p q hj h0 h1 h2
    rw [bs_end s j (by omega)]
    have c : ¬ (j : Int) < (s.size : Int) := by omega
    exact Ev.step (fun k => by simp only [spec_l11In.l0, c, ↓reduceIte] <;> rfl) (Ev.now _)
  | succ d ih =>
    intro j p q hj h0 h1 h2
    rw [bs_drop s j (by omega)]
    have c : (j : Int) < (s.size : Int) := by omega
    have c0 : 0 ≤ (j : Int) := by omega
    have e1 : wrap64 ((j : Int) + 1) = ((j + 1 : Nat) : Int) := wj (by omega)
    simp only [beg]
    by_cases hI : bt s (j : Int) = 73
    · simp only [hI, ↓reduceIte]
      by_cases hp : p < n
      · simp only [hp, ↓reduceIte]
        have ih' := ih (j + 1) (p + 1) q (by omega) h0 (by omega) (by omega)
        rw [show p + 1 - q = p - q + 1 by omega] at ih'
        refine Ev.step (fun k => by simp only [spec_l11In.l0, c, c0, hI, hp, decide_true, ↓reduceIte] <;> rfl) (Ev.step (f := fun k => spec_l11In.l0 k n s (p - q + 1) (p + 1) ((j + 1 : Nat) : Int)) (fun k => ?_) ih')
        simp only [spec_l11In.j1, ↓reduceIte]
        rw [wr (i := p - q + 1) (by omega) (by omega), wr (i := p + 1) (by omega) (by omega), e1]
      · simp only [hp, ↓reduceIte]
        refine Ev.step (fun k => by simp only [spec_l11In.l0, c, c0, hI, hp, decide_false, ↓reduceIte] <;> rfl) (Ev.step (f := fun _ => some (-1)) (fun k => ?_) (Ev.now _))
        simp only [spec_l11In.j1, c, c0, hI, ↓reduceIte]
        rfl
    · simp only [hI, ↓reduceIte]
      by_cases hO : bt s (j : Int) = 79
      · simp only [hO, ↓reduceIte]
        by_cases hq : q < p
        · simp only [hq, ↓reduceIte]
          have ih' := ih (j + 1) p (q + 1) (by omega) (by omega) (by omega) (by omega)
          rw [show p - (q + 1) = p - q - 1 by omega] at ih'
          have g : p - q > 0 := by omega
          refine Ev.step (fun k => by simp only [spec_l11In.l0, c, c0, hI, ↓reduceIte] <;> rfl) (Ev.step (f := fun k => spec_l11In.l0 k n s (p - q - 1) p ((j + 1 : Nat) : Int)) (fun k => ?_) ih')
          simp only [spec_l11In.j1, c, c0, hO, g, Bool.false_eq_true, ↓reduceIte]
          rw [wr (i := p - q - 1) (by omega) (by omega), e1]
        · simp only [hq, ↓reduceIte]
          have g : ¬ p - q > 0 := by omega
          refine Ev.step (fun k => by simp only [spec_l11In.l0, c, c0, hI, ↓reduceIte] <;> rfl) (Ev.step (f := fun _ => some (-1)) (fun k => ?_) (Ev.now _))
          simp only [spec_l11In.j1, c, c0, hO, g, Bool.false_eq_true, ↓reduceIte]
      · simp only [hO, ↓reduceIte]
        refine Ev.step (fun k => by simp only [spec_l11In.l0, c, c0, hI, ↓reduceIte] <;> rfl) (Ev.step (f := fun _ => some (-1)) (fun k => ?_) (Ev.now _))
        simp only [spec_l11In.j1, c, c0, hO, Bool.false_eq_true, ↓reduceIte]
theorem ev_isBeginning_l0 (n : Int) (s : ByteArray) (hn0 : 1 ≤ n) (hn6 : n ≤ 6) (hs : s.size ≤ 1048576) (d : Nat) : ∀ (j : Nat) (p q : Int), j + d = s.size → 0 ≤ q → q ≤ p → p ≤ n →
    Ev (fun k => impl_isBeginning.l0 k n s p q (s.size : Int) (j : Int)) (beg n ((bs s).drop j) p q).isSome := by
  induction d with
  | zero =>
    intro j p q hj h0 h1 h2
    rw [bs_end s j (by omega)]
    have c : ¬ (j : Int) < (s.size : Int) := by omega
    exact Ev.step (fun k => by simp only [impl_isBeginning.l0, c, ↓reduceIte] <;> rfl) (Ev.now _)
  | succ d ih =>
    intro j p q hj h0 h1 h2
    rw [bs_drop s j (by omega)]
    have c : (j : Int) < (s.size : Int) := by omega
    have c0 : 0 ≤ (j : Int) := by omega
    have e1 : wrap64 ((j : Int) + 1) = ((j + 1 : Nat) : Int) := wj (by omega)
    have e2 : wrap64 (p + 1) = p + 1 := wr (by omega) (by omega)
    have e3 : wrap64 (q + 1) = q + 1 := wr (by omega) (by omega)
    simp only [beg]
    by_cases hI : bt s (j : Int) = 73
    · simp only [hI, ↓reduceIte]
      have g1 : ¬ q > p + 1 := by omega
      by_cases hp : p < n
      · have g2 : ¬ p + 1 > n := by omega
        simp only [hp, ↓reduceIte]
        exact Ev.step (fun k => by simp only [impl_isBeginning.l0, c, c0, hI, e1, e2, g1, g2, ↓reduceIte]) (ih (j + 1) (p + 1) q (by omega) h0 (by omega) (by omega))
      · have g2 : p + 1 > n := by omega
        simp only [hp, ↓reduceIte]
        exact Ev.step (fun k => by simp only [impl_isBeginning.l0, c, c0, hI, e2, g1, g2, ↓reduceIte] <;> rfl) (Ev.now _)
    · simp only [hI, ↓reduceIte]
      by_cases hO : bt s (j : Int) = 79
      · simp only [hO, ↓reduceIte]
        have g2 : ¬ p > n := by omega
        by_cases hq : q < p
        · have g1 : ¬ q + 1 > p := by omega
          simp only [hq, ↓reduceIte]
          exact Ev.step (fun k => by simp only [impl_isBeginning.l0, c, c0, hI, hO, e1, e3, g1, g2, ↓reduceIte] <;> rfl) (ih (j + 1) p (q + 1) (by omega) (by omega) (by omega) (by omega))
        · have g1 : q + 1 > p := by omega
          simp only [hq, ↓reduceIte]
          exact Ev.step (fun k => by simp only [impl_isBeginning.l0, c, c0, hI, hO, e3, g1, g2, ↓reduceIte] <;> rfl) (Ev.now _)
      · simp only [hO, ↓reduceIte]
        exact Ev.step (fun k => by simp only [impl_isBeginning.l0, c, c0, hI, hO, ↓reduceIte] <;> rfl) (Ev.now _)
/-- Is a text a beginning for n numbers? -/
def isBeg (n : Int) (s : ByteArray) : Bool := decide (1 ≤ n) && decide (n ≤ 6) && decide ((s.size : Int) ≤ 2 * n) && (beg n (bs s) 0 0).isSome
theorem begR_some (n : Int) (l : List Int) (h : 0 ≤ n) : decide (begR (beg n l 0 0) ≥ 0) = (beg n l 0 0).isSome := by
  cases e : beg n l 0 0 with
  | none => rfl
  | some r =>
    obtain ⟨p, q⟩ := r
    have := beg_bounds n l 0 0 p q (by omega) h e
    show decide (p - q ≥ 0) = true
    exact decide_eq_true (by omega)
theorem ev_l11In (n : Int) (s : ByteArray) (hn0 : 1 ≤ n) (hn6 : n ≤ 6) (hs : s.size ≤ 1048576) : Ev (fun k => spec_l11In.f k n s) (if (s.size : Int) ≤ 2 * n then begR (beg n (bs s) 0 0) else -1) := by
  have e : wrap64 (2 * n) = 2 * n := wr (by omega) (by omega)
  by_cases h : (s.size : Int) ≤ 2 * n
  · have h' : ¬ (s.size : Int) > 2 * n := by omega
    have := ev_l11In_l0 n s hn0 hn6 hs s.size 0 0 0 (by omega) (by omega) (by omega) (by omega)
    simp only [List.drop_zero] at this
    simp only [spec_l11In.f, e, h, h', ↓reduceIte]
    exact this
  · have h' : (s.size : Int) > 2 * n := by omega
    simp only [spec_l11In.f, e, h, h', ↓reduceIte]
    exact Ev.now _
theorem ev_isBeginning (n : Int) (s : ByteArray) (hs : s.size ≤ 1048576) : Ev (fun k => impl_isBeginning.f k n s) (isBeg n s) := by
  unfold isBeg
  by_cases h1 : 1 ≤ n
  · by_cases h6 : n ≤ 6
    · have e : wrap64 (2 * n) = 2 * n := wr (by omega) (by omega)
      have g1 : ¬ n < 1 := by omega
      have g6 : ¬ n > 6 := by omega
      simp only [impl_isBeginning.f, g1, g6, e, h1, h6, decide_true, Bool.true_and, ↓reduceIte]
      by_cases hl : (s.size : Int) ≤ 2 * n
      · have hl' : ¬ (s.size : Int) > 2 * n := by omega
        simp only [hl, hl', decide_true, decide_false, Bool.true_and]
        have := ev_isBeginning_l0 n s h1 h6 hs s.size 0 0 0 (by omega) (by omega) (by omega) (by omega)
        simp only [List.drop_zero] at this
        exact Ev.step (fun k => by simp only [impl_isBeginning.j0, Bool.false_eq_true, ↓reduceIte] <;> rfl) this
      · have hl' : (s.size : Int) > 2 * n := by omega
        simp only [hl, hl', decide_true, decide_false, Bool.false_and]
        exact Ev.step (fun k => by simp only [impl_isBeginning.j0, ↓reduceIte] <;> rfl) (Ev.now _)
    · have g1 : ¬ n < 1 := by omega
      have g6 : n > 6 := by omega
      simp only [impl_isBeginning.f, g1, g6, h6, decide_false, Bool.and_false, Bool.false_and, ↓reduceIte]
      exact Ev.step (fun k => by simp only [impl_isBeginning.j0, ↓reduceIte] <;> rfl) (Ev.now _)
  · have g1 : n < 1 := by omega
    simp only [impl_isBeginning.f, g1, h1, decide_false, Bool.false_and, ↓reduceIte]
    exact Ev.step (fun k => by simp only [impl_isBeginning.j0, ↓reduceIte] <;> rfl) (Ev.now _)
/-! ### an order and a beginning; the stack behind it -/
def duelB (l : List Int) (s : ByteArray) : Bool := ordB l && isBeg (l.length : Int) s
theorem duelB_facts {l : List Int} {s : ByteArray} (h : duelB l s = true) : ordB l = true ∧ 1 ≤ l.length ∧ l.length ≤ 6 ∧ (s.size : Int) ≤ 2 * (l.length : Int) ∧ ∃ p q, beg (l.length : Int) (bs s) 0 0 = some (p, q) := by
  unfold duelB isBeg at h
  simp only [Bool.and_eq_true, decide_eq_true_eq] at h
  obtain ⟨h0, ⟨⟨h1, h6⟩, hl⟩, hb⟩ := h
  obtain ⟨⟨p, q⟩, hp⟩ := Option.isSome_iff_exists.1 hb
  exact ⟨h0, by omega, by omega, hl, p, q, hp⟩
theorem ev_l11Good (l : List Int) (s : ByteArray) (hs : s.size ≤ 1048576) : Ev (fun k => spec_l11Good.f k l s) (duelB l s) := by
  unfold spec_l11Good.f duelB
  refine Ev.bind (ev_l2Order l) ?_
  cases ho : ordB l with
  | false =>
    simp only [Bool.false_eq_true, ↓reduceIte, Bool.false_and]
    exact Ev.now _
  | true =>
    obtain ⟨g1, g7⟩ := ordB_len ho
    simp only [↓reduceIte, Bool.true_and]
    by_cases h6 : (l.length : Int) ≤ 6
    · simp only [h6, ↓reduceIte]
      refine Ev.bind (ev_l11In (l.length : Int) s (by omega) h6 hs) ?_
      unfold isBeg
      have h1 : (1 : Int) ≤ (l.length : Int) := by omega
      by_cases hl : (s.size : Int) ≤ 2 * (l.length : Int)
      · simp only [hl, h1, h6, decide_true, Bool.true_and, ↓reduceIte]
        rw [begR_some _ _ (by omega)]
        exact Ev.now _
      · simp only [hl, h1, h6, decide_true, decide_false, Bool.true_and, Bool.false_and, ↓reduceIte]
        exact Ev.now _
    · simp only [h6, ↓reduceIte]
      unfold isBeg
      simp only [h6, decide_false, Bool.and_false, Bool.false_and]
      exact Ev.now _
theorem ev_isDuel (l : List Int) (s : ByteArray) (hs : s.size ≤ 1048576) : Ev (fun k => impl_isDuel.f k l s) (duelB l s) := by
  unfold impl_isDuel.f duelB
  refine Ev.bind (ev_isOrder l) ?_
  cases ho : ordB l with
  | false =>
    simp only [Bool.false_eq_true, ↓reduceIte, Bool.false_and]
    exact Ev.now _
  | true =>
    simp only [↓reduceIte, Bool.true_and]
    exact Ev.bind (ev_isBeginning (l.length : Int) s hs) (Ev.now _)
theorem ev_stackAfter_l0 (l : List Int) (s : ByteArray) (hn : l.length ≤ 6) (hs : s.size ≤ 1048576) (d : Nat) : ∀ (j p : Nat) (q : Int) (st : List Int) (pd : Int), j + d = s.size → p ≤ l.length → (st.length : Int) = (p : Int) - q → 0 ≤ q → (beg (l.length : Int) ((bs s).drop j) p q).isSome = true →
    Ev (fun k => impl_stackAfter.l0 k (l.drop p) s st pd (s.size : Int) (j : Int)) (stk ((bs s).drop j) (l.drop p) st pd) := by
  induction d with
  | zero =>
    intro j p q st pd hj hp hst hq hb
    rw [bs_end s j (by omega)]
    have c : ¬ (j : Int) < (s.size : Int) := by omega
    exact Ev.step (f := fun _ => some (st, pd)) (fun k => by simp only [impl_stackAfter.l0, c, ↓reduceIte]) (Ev.now _)
  | succ d ih =>
    intro j p q st pd hj hp hst hq hb
    rw [bs_drop s j (by omega)] at hb ⊢
    have c : (j : Int) < (s.size : Int) := by omega
    have c0 : 0 ≤ (j : Int) := by omega
    have e1 := Aside0.mk (show wrap64 ((j : Int) + 1) = ((j + 1 : Nat) : Int) from wj (by omega))
    simp only [beg] at hb
    simp only [stk]
    by_cases hI : bt s (j : Int) = 73
    · simp only [hI, ↓reduceIte] at hb ⊢
      by_cases hpn : (p : Int) < (l.length : Int)
      · simp only [hpn, ↓reduceIte] at hb
        have g0 : 0 < ((l.drop p).length : Int) := by rw [List.length_drop]; omega
        have g1 : 1 ≤ ((l.drop p).length : Int) := by omega
        have lim : st.length < 17592186044416 := by omega
        have ih' := ih (j + 1) (p + 1) q (st ++ [rd (l.drop p) 0]) 0 (by omega) (by omega) (by rw [List.length_append, List.length_singleton]; omega) hq hb
        rw [← List.drop_drop] at ih'
        rw [show (l.drop p).headD 0 = rd (l.drop p) 0 by unfold rd; simp [List.headD_eq_head?_getD, List.head?_drop], show (l.drop p).tail = (l.drop p).drop 1 by simp]
        refine Ev.step (fun k => ?_) ih'
        simp only [impl_stackAfter.l0, c, c0, hI, g0, g1, lim, e1.out, ↓reduceIte]
      · simp only [hpn, ↓reduceIte] at hb
        cases hb
    · simp only [hI, ↓reduceIte] at hb ⊢
      by_cases hO : bt s (j : Int) = 79
      · simp only [hO, ↓reduceIte] at hb
        by_cases hqp : q < (p : Int)
        · simp only [hqp, ↓reduceIte] at hb
          rcases snoc_cases st with rfl | ⟨st, x, rfl⟩
          · simp only [List.length_nil, Int.natCast_zero] at hst
            omega
          · have hlen : (st ++ [x]).length = st.length + 1 := by simp
            rw [hlen] at hst
            have et := Aside0.mk (show wrap64 (((st ++ [x]).length : Int) - 1) = (st.length : Int) from by rw [hlen, wr (by omega) (by omega)]; omega)
            have etop : rd (st ++ [x]) (st.length : Int) = x := by rw [rd_nat]; simp
            have t0 : 0 ≤ (st.length : Int) := by omega
            have t1 : (st.length : Int) < ((st ++ [x]).length : Int) := by rw [hlen]; omega
            have t2 : (st.length : Int) ≤ ((st ++ [x]).length : Int) := by rw [hlen]; omega
            have ih' := ih (j + 1) p (q + 1) st x (by omega) hp (by omega) (by omega) hb
            rw [show (st ++ [x]).dropLast = st by simp, show (st ++ [x]).getLastD 0 = x by simp]
            refine Ev.step (fun k => ?_) ih'
            simp only [impl_stackAfter.l0, c, c0, hI, et.out, t0, t1, t2, etop, e1.out, Int.toNat_natCast, ↓reduceIte]
            rw [show (st ++ [x]).take st.length = st by simp]
        · simp only [hqp, ↓reduceIte] at hb
          cases hb
      · simp only [hO, ↓reduceIte] at hb
        cases hb
theorem ev_stackAfter (l : List Int) (s : ByteArray) (h : duelB l s = true) (hs : s.size ≤ 1048576) : Ev (fun k => impl_stackAfter.f k l s) (stk (bs s) l [] 0) := by
  obtain ⟨h0, h1, h6, hl, p, q, hb⟩ := duelB_facts h
  have := ev_stackAfter_l0 l s h6 hs s.size 0 0 0 [] 0 (by omega) (by omega) (by simp) (by omega) (by rw [List.drop_zero]; exact Option.isSome_iff_exists.2 ⟨_, hb⟩)
  simp only [List.drop_zero] at this
  exact this
theorem ev_l11Stack_l0 (l : List Int) (s : ByteArray) (hn : l.length ≤ 6) (hs : s.size ≤ 1048576) (d : Nat) : ∀ (j p : Nat) (q : Int) (st : List Int) (pd : Int), j + d = s.size → p ≤ l.length → (st.length : Int) = (p : Int) - q → 0 ≤ q → (beg (l.length : Int) ((bs s).drop j) p q).isSome = true →
    Ev (fun k => spec_l11Stack.l0 k l s st (p : Int) (j : Int)) (stk ((bs s).drop j) (l.drop p) st pd).1 := by
  induction d with
  | zero =>
    intro j p q st pd hj hp hst hq hb
    rw [bs_end s j (by omega)]
    have c : ¬ (j : Int) < (s.size : Int) := by omega
    have lim : ([] : List Int).length + st.length < 17592186044416 := by simp; omega
    refine Ev.step (f := fun _ => some st) (fun k => ?_) (Ev.now _)
    simp only [spec_l11Stack.l0, c, ↓reduceIte, spec_l1Own.f, Option.bind_some, lim, List.nil_append]
  | succ d ih =>
    intro j p q st pd hj hp hst hq hb
    rw [bs_drop s j (by omega)] at hb ⊢
    have c : (j : Int) < (s.size : Int) := by omega
    have c0 : 0 ≤ (j : Int) := by omega
    have e1 := Aside0.mk (show wrap64 ((j : Int) + 1) = ((j + 1 : Nat) : Int) from wj (by omega))
    have e2 := Aside0.mk (show wrap64 ((p : Int) + 1) = ((p + 1 : Nat) : Int) from wj (by omega))
    simp only [beg] at hb
    simp only [stk]
    by_cases hI : bt s (j : Int) = 73
    · simp only [hI, ↓reduceIte] at hb ⊢
      by_cases hpn : (p : Int) < (l.length : Int)
      · simp only [hpn, ↓reduceIte] at hb
        have c0p : 0 ≤ (p : Int) := by omega
        have lim : st.length < 17592186044416 := by omega
        have ih' := ih (j + 1) (p + 1) q (st ++ [rd l (p : Int)]) 0 (by omega) (by omega) (by rw [List.length_append, List.length_singleton]; omega) hq hb
        rw [show (l.drop p).headD 0 = rd l (p : Int) by rw [rd_drop l p (by omega)]; rfl, show (l.drop p).tail = l.drop (p + 1) by simp]
        refine Ev.step (fun k => ?_) ih'
        simp only [spec_l11Stack.l0, c, c0, hI, c0p, hpn, lim, e1.out, e2.out, ↓reduceIte]
      · simp only [hpn, ↓reduceIte] at hb
        cases hb
    · simp only [hI, ↓reduceIte] at hb ⊢
      by_cases hO : bt s (j : Int) = 79
      · simp only [hO, ↓reduceIte] at hb
        by_cases hqp : q < (p : Int)
        · simp only [hqp, ↓reduceIte] at hb
          rcases snoc_cases st with rfl | ⟨st, x, rfl⟩
          · simp only [List.length_nil, Int.natCast_zero] at hst
            omega
          · have hlen : (st ++ [x]).length = st.length + 1 := by simp
            rw [hlen] at hst
            have et := Aside0.mk (show wrap64 (((st ++ [x]).length : Int) - 1) = (st.length : Int) from by rw [hlen, wr (by omega) (by omega)]; omega)
            have t0 : 0 ≤ (st.length : Int) := by omega
            have t2 : (st.length : Int) ≤ ((st ++ [x]).length : Int) := by rw [hlen]; omega
            have ih' := ih (j + 1) p (q + 1) st x (by omega) hp (by omega) (by omega) hb
            rw [show (st ++ [x]).dropLast = st by simp, show (st ++ [x]).getLastD 0 = x by simp]
            refine Ev.step (fun k => ?_) ih'
            simp only [spec_l11Stack.l0, c, c0, hI, et.out, t0, t2, e1.out, Int.toNat_natCast, ↓reduceIte]
            rw [show (st ++ [x]).take st.length = st by simp]
        · simp only [hqp, ↓reduceIte] at hb
          cases hb
      · simp only [hO, ↓reduceIte] at hb
        cases hb
theorem ev_l11Stack (l : List Int) (s : ByteArray) (h : duelB l s = true) (hs : s.size ≤ 1048576) : Ev (fun k => spec_l11Stack.f k l s) (stk (bs s) l [] 0).1 := by
  obtain ⟨h0, h1, h6, hl, p, q, hb⟩ := duelB_facts h
  have := ev_l11Stack_l0 l s h6 hs s.size 0 0 0 [] 0 (by omega) (by omega) (by simp) (by omega) (by rw [List.drop_zero]; exact Option.isSome_iff_exists.2 ⟨_, hb⟩)
  simp only [List.drop_zero] at this
  exact this
/-! ### the signs with which a beginning goes on -/
theorem isBeg_snoc (n : Int) (s t : ByteArray) (c : Int) (ht : bs t = [c]) (p q : Int) (h : isBeg n s = true) (hb : beg n (bs s) 0 0 = some (p, q)) : isBeg n (s ++ t) = (if c = 73 then decide (p < n) else if c = 79 then decide (q < p) else false) := by
  unfold isBeg at h ⊢
  simp only [Bool.and_eq_true, decide_eq_true_eq] at h
  obtain ⟨⟨⟨h1, h6⟩, hl⟩, _⟩ := h
  have b := beg_bounds n (bs s) 0 0 p q (by omega) (by omega) hb
  rw [bs_length] at b
  have ht1 : t.size = 1 := by rw [← bs_length, ht]; rfl
  rw [bs_append, beg_append, hb, ht, size_append, ht1]
  simp only [Option.bind_some, beg]
  by_cases h73 : c = 73
  · simp only [h73, ↓reduceIte]
    by_cases hp : p < n
    · simp [hp, h1, h6]
      omega
    · simp [hp]
  · simp only [h73, ↓reduceIte]
    by_cases h79 : c = 79
    · simp only [h79, ↓reduceIte]
      by_cases hp : q < p
      · simp [hp, h1, h6]
        omega
      · simp [hp]
    · simp [h79]
/-- The signs with which a beginning with p pushes and q pops goes on. -/
def signs (n p q : Int) : ByteArray := (if p < n then (⟨#[73]⟩ : ByteArray) else ⟨#[]⟩) ++ (if q < p then (⟨#[79]⟩ : ByteArray) else ⟨#[]⟩)
theorem ev_nextSigns (n : Int) (s : ByteArray) (hs : s.size ≤ 1048576) (p q : Int) (h : isBeg n s = true) (hb : beg n (bs s) 0 0 = some (p, q)) : Ev (fun k => impl_nextSigns.f k n s) (signs n p q) := by
  have hI := isBeg_snoc n s ⟨#[73]⟩ 73 rfl p q h hb
  have hO := isBeg_snoc n s ⟨#[79]⟩ 79 rfl p q h hb
  have hl : (s.size : Int) ≤ 12 := by
    unfold isBeg at h
    simp only [Bool.and_eq_true, decide_eq_true_eq] at h
    omega
  simp only [↓reduceIte] at hI
  rw [if_neg (by decide), if_pos rfl] at hO
  simp only [impl_nextSigns.f, Option.bind_some]
  have z0 : rdOf ByteArray.empty ([(⟨#[73]⟩ : ByteArray), (⟨#[79]⟩ : ByteArray)] : List ByteArray) 0 = ⟨#[73]⟩ := rfl
  have z1 : rdOf ByteArray.empty ([(⟨#[73]⟩ : ByteArray), (⟨#[79]⟩ : ByteArray)] : List ByteArray) 1 = ⟨#[79]⟩ := rfl
  have s73 : (⟨#[73]⟩ : ByteArray).size = 1 := rfl
  have s79 : (⟨#[79]⟩ : ByteArray).size = 1 := rfl
  have k1 : s.size + 1 ≤ 9223372036854775807 := by omega
  have nn : (([(⟨#[73]⟩ : ByteArray), (⟨#[79]⟩ : ByteArray)] : List ByteArray).length : Int) = 2 := rfl
  have w1 : wrap64 (0 + 1) = 1 := by unfold wrap64; omega
  have w2 : wrap64 (1 + 1) = 2 := by unfold wrap64; omega
  have e0 : (⟨#[]⟩ : ByteArray).size = 0 := rfl
  have last : ∀ out : ByteArray, Ev (fun k => impl_nextSigns.l0 k n s out [(⟨#[73]⟩ : ByteArray), (⟨#[79]⟩ : ByteArray)] 2 2) out := fun out => Ev.step (fun k => by simp only [impl_nextSigns.l0]; rfl) (Ev.now _)
  have second : ∀ out : ByteArray, out.size ≤ 1 → Ev (fun k => impl_nextSigns.l0 k n s out [(⟨#[73]⟩ : ByteArray), (⟨#[79]⟩ : ByteArray)] 2 1) (out ++ (if q < p then (⟨#[79]⟩ : ByteArray) else ⟨#[]⟩)) := by
    intro out ho
    have k2 : out.size + 1 ≤ 9223372036854775807 := by omega
    refine Ev.step (f := fun k => (impl_isBeginning.f k n (s ++ ⟨#[79]⟩)).bind fun t => if t = true then impl_nextSigns.l0 k n s (out ++ ⟨#[79]⟩) [(⟨#[73]⟩ : ByteArray), (⟨#[79]⟩ : ByteArray)] 2 2 else impl_nextSigns.l0 k n s out [(⟨#[73]⟩ : ByteArray), (⟨#[79]⟩ : ByteArray)] 2 2) (fun k => ?_) ?_
    · simp only [impl_nextSigns.l0, nn, z1, s79, k1, k2, w2, ↓reduceIte, show ((1 : Int) < 2) = True by decide, show ((0 : Int) ≤ 1) = True by decide]
    · refine Ev.bind (ev_isBeginning n (s ++ ⟨#[79]⟩) (by rw [size_append]; omega)) ?_
      rw [hO]
      by_cases hq : q < p
      · simp only [hq, decide_true, ↓reduceIte]
        exact last _
      · simp only [hq, decide_false, Bool.false_eq_true, ↓reduceIte]
        have : out ++ (⟨#[]⟩ : ByteArray) = out := bs_inj (by rw [bs_append]; simp [bs])
        rw [this]
        exact last _
  refine Ev.step (f := fun k => (impl_isBeginning.f k n (s ++ ⟨#[73]⟩)).bind fun t => if t = true then impl_nextSigns.l0 k n s (⟨#[]⟩ ++ ⟨#[73]⟩) [(⟨#[73]⟩ : ByteArray), (⟨#[79]⟩ : ByteArray)] 2 1 else impl_nextSigns.l0 k n s ⟨#[]⟩ [(⟨#[73]⟩ : ByteArray), (⟨#[79]⟩ : ByteArray)] 2 1) (fun k => ?_) ?_
  · simp only [impl_nextSigns.l0, nn, z0, s73, e0, k1, w1, ↓reduceIte, show ((0 : Int) < 2) = True by decide, show ((0 : Int) ≤ 0) = True by decide, show (0 + 1 ≤ 9223372036854775807) = True by decide]
  · refine Ev.bind (ev_isBeginning n (s ++ ⟨#[73]⟩) (by rw [size_append]; omega)) ?_
    rw [hI]
    unfold signs
    by_cases hp : p < n
    · simp only [hp, decide_true, ↓reduceIte]
      exact second _ (by decide)
    · simp only [hp, decide_false, Bool.false_eq_true, ↓reduceIte]
      exact second _ (by decide)
theorem ev_l11Signs (n : Int) (s : ByteArray) (hs : s.size ≤ 1048576) (p q : Int) (h : isBeg n s = true) (hb : beg n (bs s) 0 0 = some (p, q)) : Ev (fun k => spec_l11Signs.f k n s) (signs n p q) := by
  unfold isBeg at h
  simp only [Bool.and_eq_true, decide_eq_true_eq] at h
  obtain ⟨⟨⟨h1, h6⟩, hl⟩, _⟩ := h
  have b := beg_bounds n (bs s) 0 0 p q (by omega) (by omega) hb
  rw [bs_length] at b
  have r := ev_l11In n s h1 h6 hs
  rw [if_pos hl, hb] at r
  simp only [begR] at r
  unfold spec_l11Signs.f signs
  refine Ev.bind r ?_
  have e : wrap64 (Int.tdiv (wrap64 ((s.size : Int) + (p - q))) 2) = p := by
    rw [wr (i := (s.size : Int) + (p - q)) (by omega) (by omega), show (s.size : Int) + (p - q) = 2 * p by omega, Int.mul_tdiv_cancel_left _ (by decide)]
    exact wr (by omega) (by omega)
  simp only [e]
  have g : (p - q > 0) = (q < p) := by simp only [gt_iff_lt, eq_iff_iff]; omega
  simp only [g]
  by_cases hp : p < n <;> by_cases hq : q < p <;> simp only [hp, hq, ↓reduceIte, show (1 + 1 ≤ 9223372036854775807) = True by decide, show (0 + 1 ≤ 9223372036854775807) = True by decide]
  all_goals first | exact Ev.now _ | exact (bs_inj (by rw [bs_append]; rfl) : (⟨#[73]⟩ : ByteArray) = ⟨#[73]⟩ ++ ⟨#[]⟩) ▸ Ev.now _
/-! ### the value of a beginning -/
def sl (n p q : Int) : List Int := (if p < n then [73] else []) ++ (if q < p then [79] else [])
theorem signs_bs (n p q : Int) : bs (signs n p q) = sl n p q := by
  unfold signs sl
  rw [bs_append]
  split <;> split <;> rfl
theorem signs_cut (n p q : Int) (j : Nat) (hj : j < (sl n p q).length) : (signs n p q).extract j (j + 1) = sg ((sl n p q)[j]'hj) := by
  revert hj
  unfold signs sl
  by_cases h1 : p < n <;> by_cases h2 : q < p <;> simp only [h1, h2, ↓reduceIte] <;> intro hj
  · match j, hj with
    | 0, _ => rfl
    | 1, _ => rfl
  · match j, hj with
    | 0, _ => rfl
  · match j, hj with
    | 0, _ => rfl
  · exact absurd hj (by simp)
theorem sl_mem {n p q c : Int} (h : c ∈ sl n p q) : (c = 73 ∧ p < n) ∨ (c = 79 ∧ q < p) := by
  unfold sl at h
  by_cases h1 : p < n <;> by_cases h2 : q < p <;> simp [h1, h2] at h ⊢ <;> exact h
theorem sl_len (n p q : Int) : (sl n p q).length ≤ 2 := by
  unfold sl
  split <;> split <;> decide
def slO (l : List Int) (s : ByteArray) : List Int := match beg (l.length : Int) (bs s) 0 0 with | some r => sl (l.length : Int) r.1 r.2 | none => []
def gv (l : List Int) (V : ByteArray → Int) (s : ByteArray) (c : Int) : Int := wrap64 ((if c = 79 then (stk (bs s) l [] 0).1.getLastD 0 else 0) - V (s ++ sg c))
def lp (G : Int → Int) : List Int → Bool → Int → Int
  | [], _, best => best
  | c :: t, first, best => lp G t false (if first = true ∨ G c > best then G c else best)
def vl (l : List Int) : Nat → ByteArray → Int
  | 0, _ => 0
  | m + 1, s => lp (gv l (vl l m) s) (slO l s) true 0
theorem stk_snoc : ∀ (a rest st : List Int) (pd c : Int), (stk (a ++ [c]) rest st pd).2 = if c = 73 then 0 else (stk a rest st pd).1.getLastD 0
  | [], rest, st, pd, c => by simp only [stk, List.nil_append]; split <;> rfl
  | d :: t, rest, st, pd, c => by
    simp only [stk, List.cons_append]
    split
    · exact stk_snoc t _ _ _ c
    · exact stk_snoc t _ _ _ c
theorem stk_high (n : Int) : ∀ (a rest st : List Int) (pd p q p' q' : Int), beg n a p q = some (p', q') → (st.length : Int) = p - q → ((stk a rest st pd).1.length : Int) = p' - q'
  | [], rest, st, pd, p, q, p', q', h, hl => by
    simp only [beg, Option.some.injEq, Prod.mk.injEq] at h
    obtain ⟨rfl, rfl⟩ := h
    exact hl
  | c :: t, rest, st, pd, p, q, p', q', h, hl => by
    simp only [beg] at h
    simp only [stk]
    by_cases h73 : c = 73
    · simp only [h73, ↓reduceIte] at h ⊢
      by_cases hp : p < n
      · simp only [hp, ↓reduceIte] at h
        exact stk_high n t _ _ _ _ _ _ _ h (by rw [List.length_append, List.length_singleton]; omega)
      · simp only [hp, ↓reduceIte] at h
        cases h
    · simp only [h73, ↓reduceIte] at h ⊢
      by_cases h79 : c = 79
      · simp only [h79, ↓reduceIte] at h
        by_cases hq : q < p
        · simp only [hq, ↓reduceIte] at h
          exact stk_high n t _ _ _ _ _ _ _ h (by rw [List.length_dropLast]; omega)
        · simp only [hq, ↓reduceIte] at h
          cases h
      · simp only [h79, ↓reduceIte] at h
        cases h
theorem sg_bs {c : Int} (h : c = 73 ∨ c = 79) : bs (sg c) = [c] := by rcases h with rfl | rfl <;> rfl
theorem sg_size (c : Int) : (sg c).size = 1 := by unfold sg; split <;> rfl
theorem duel_step {l : List Int} {s : ByteArray} {p q c : Int} (h : duelB l s = true) (hb : beg (l.length : Int) (bs s) 0 0 = some (p, q)) (hc : c ∈ sl (l.length : Int) p q) : duelB l (s ++ sg c) = true := by
  have hh := h
  unfold duelB at hh ⊢
  simp only [Bool.and_eq_true] at hh ⊢
  refine ⟨hh.1, ?_⟩
  rcases sl_mem hc with ⟨rfl, hp⟩ | ⟨rfl, hq⟩
  · rw [isBeg_snoc (l.length : Int) s (sg 73) 73 rfl p q hh.2 hb, if_pos rfl]
    exact decide_eq_true hp
  · rw [isBeg_snoc (l.length : Int) s (sg 79) 79 rfl p q hh.2 hb, if_neg (by decide), if_pos rfl]
    exact decide_eq_true hq
theorem isBeg_of {l : List Int} {s : ByteArray} (h : duelB l s = true) : isBeg (l.length : Int) s = true := by
  unfold duelB at h
  simp only [Bool.and_eq_true] at h
  exact h.2
theorem ev_dlp (G : Nat → Int → Option Int) (H : Int → Int) : ∀ (L : List Int) (f : Bool) (b : Int), (∀ c ∈ L, Ev (fun k => G k c) (H c)) → Ev (fun k => dlp (G k) L f b) (lp H L f b)
  | [], f, b, _ => Ev.now _
  | c :: t, f, b, h => by
    simp only [dlp, lp]
    exact Ev.bind (h c (List.mem_cons_self)) (ev_dlp G H t _ _ fun x hx => h x (List.mem_cons_of_mem _ hx))
theorem ev_slp (G : Nat → ByteArray → Option Int) (H : Int → Int) (sgn : ByteArray) (L : List Int) (h : ∀ j (hj : j < L.length), Ev (fun k => G k (sgn.extract j (j + 1))) (H (L[j]'hj))) : ∀ (d i : Nat) (b : Int), i + d = L.length → Ev (fun k => slp (G k) sgn d i b) (lp H (L.drop i) (decide (i = 0)) b)
  | 0, i, b, hi => by
    rw [List.drop_of_length_le (by omega)]
    exact Ev.now _
  | d + 1, i, b, hi => by
    rw [List.drop_eq_getElem_cons (by omega)]
    simp only [slp, lp]
    refine Ev.bind (h i (by omega)) ?_
    have := ev_slp G H sgn L h d (i + 1) (if i = 0 ∨ H (L[i]'(by omega)) > b then H (L[i]'(by omega)) else b) (by omega)
    simp only [decide_eq_true_eq]
    exact this
theorem ev_dval (l : List Int) : ∀ (m : Nat) (s : ByteArray), duelB l s = true → 2 * l.length < m + s.size → Ev (fun k => dval k l m s) (vl l m s)
  | 0, s, h, hm => by
    obtain ⟨_, _, _, hl, _⟩ := duelB_facts h
    omega
  | m + 1, s, h, hm => by
    obtain ⟨h0, h1, h6, hl, p, q, hb⟩ := duelB_facts h
    simp only [dval, vl]
    refine Ev.bind (ev_nextSigns (l.length : Int) s (by omega) p q (isBeg_of h) hb) ?_
    have hsz : (signs (l.length : Int) p q).size ≤ 2 := by rw [← bs_length, signs_bs]; exact sl_len _ _ _
    rw [show slO l s = sl (l.length : Int) p q by unfold slO; rw [hb]]
    simp only [show ((signs (l.length : Int) p q).size ≤ 2 ∧ s.size ≤ 1000) = True from eq_true ⟨hsz, by omega⟩, ↓reduceIte]
    rw [show bytesOf (signs (l.length : Int) p q) = sl (l.length : Int) p q from signs_bs _ _ _]
    refine ev_dlp (fun k => dgain k l (dval k l m) s) _ _ _ _ fun c hc => ?_
    have hd := duel_step h hb hc
    have hc2 : c = 73 ∨ c = 79 := by rcases sl_mem hc with ⟨e, _⟩ | ⟨e, _⟩; exact .inl e; exact .inr e
    have hs1 : (s ++ sg c).size = s.size + 1 := by rw [size_append, sg_size]
    simp only [dgain, show ((c = 73 ∨ c = 79) ∧ s.size ≤ 1000) = True from eq_true ⟨hc2, by omega⟩, ↓reduceIte]
    refine Ev.bind (ev_stackAfter l (s ++ sg c) hd (by omega)) ?_
    refine Ev.bind (ev_dval l m (s ++ sg c) hd (by omega)) ?_
    have e : (stk (bs (s ++ sg c)) l [] 0).2 = if c = 79 then (stk (bs s) l [] 0).1.getLastD 0 else 0 := by
      rw [bs_append, sg_bs hc2, stk_snoc]
      rcases hc2 with rfl | rfl <;> rfl
    rw [e]
    exact Ev.now _
theorem ev_sby (l : List Int) (V : Nat → ByteArray → Option Int) (W : ByteArray → Int) (s : ByteArray) (h : duelB l s = true) (p q : Int) (hb : beg (l.length : Int) (bs s) 0 0 = some (p, q)) (c : Int) (hc : c ∈ sl (l.length : Int) p q) (hV : Ev (fun k => V k (s ++ sg c)) (W (s ++ sg c))) : Ev (fun k => sby k l (V k) s (sg c)) (gv l W s c) := by
  obtain ⟨h0, h1, h6, hl, _⟩ := duelB_facts h
  have hc2 := sl_mem hc
  simp only [sby, show (s.size + (sg c).size ≤ 1000000) = True from eq_true (by rw [sg_size]; omega), ↓reduceIte]
  have hg : Ev (fun k => if (sg c).toList = ([79] : List UInt8) then (spec_l11Stack.f k l s).bind fun t => if 0 < t.length ∧ t.length ≤ 1000000 then some (rd t ((t.length : Int) - 1)) else none else some 0) (if c = 79 then (stk (bs s) l [] 0).1.getLastD 0 else 0) := by
    rcases hc2 with ⟨rfl, hp⟩ | ⟨rfl, hq⟩
    · have e : ¬ (sg 73).toList = ([79] : List UInt8) := by decide +kernel
      simp only [e, ↓reduceIte, show ¬ ((73 : Int) = 79) by decide]
      exact Ev.now _
    · have e : (sg 79).toList = ([79] : List UInt8) := by decide +kernel
      simp only [e, ↓reduceIte]
      refine Ev.bind (ev_l11Stack l s h (by omega)) ?_
      have hh := stk_high (l.length : Int) (bs s) l [] 0 0 0 p q hb (by simp)
      have b := beg_bounds (l.length : Int) (bs s) 0 0 p q (by omega) (by omega) hb
      rw [bs_length] at b
      generalize (stk (bs s) l [] 0).1 = t at hh ⊢
      simp only [show (0 < t.length ∧ t.length ≤ 1000000) = True from eq_true ⟨by omega, by omega⟩, ↓reduceIte]
      rw [show rd t ((t.length : Int) - 1) = t.getLastD 0 by
        rcases snoc_cases t with rfl | ⟨m, x, rfl⟩
        · simp at hh; omega
        · rw [show (((m ++ [x]).length : Int) - 1) = (m.length : Int) by simp, rd_nat]; simp]
      exact Ev.now _
  exact Ev.bind hg (Ev.bind hV (Ev.now _))
theorem ev_sval (l : List Int) : ∀ (m : Nat) (s : ByteArray), duelB l s = true → 2 * l.length < m + s.size → Ev (fun k => sval k l m s) (vl l m s)
  | 0, s, h, hm => by
    obtain ⟨_, _, _, hl, _⟩ := duelB_facts h
    omega
  | m + 1, s, h, hm => by
    obtain ⟨h0, h1, h6, hl, p, q, hb⟩ := duelB_facts h
    simp only [sval, vl]
    refine Ev.bind (ev_l11Signs (l.length : Int) s (by omega) p q (isBeg_of h) hb) ?_
    have hlen : (sl (l.length : Int) p q).length = (signs (l.length : Int) p q).size := by rw [← bs_length, signs_bs]
    have hsz : (signs (l.length : Int) p q).size ≤ 4 := by have := sl_len (l.length : Int) p q; omega
    rw [show slO l s = sl (l.length : Int) p q by unfold slO; rw [hb]]
    simp only [hsz, ↓reduceIte]
    refine ev_slp (fun k => sby k l (sval k l m) s) (gv l (vl l m) s) (signs (l.length : Int) p q) (sl (l.length : Int) p q) (fun j hj => ?_) _ 0 0 (by omega)
    rw [signs_cut (l.length : Int) p q j hj]
    have hc : (sl (l.length : Int) p q)[j]'hj ∈ sl (l.length : Int) p q := List.getElem_mem hj
    have hd := duel_step h hb hc
    exact ev_sby l (fun k => sval k l m) (vl l m) s h p q hb _ hc (ev_sval l m _ hd (by rw [size_append, sg_size]; omega))
theorem ev_l11Value (l : List Int) (s : ByteArray) (h : duelB l s = true) : Ev (fun k => spec_l11Value.f k l s) (vl l 14 s) := by
  obtain ⟨_, _, h6, _⟩ := duelB_facts h
  obtain ⟨K, hK⟩ := ev_sval l 14 s h (by omega)
  refine ⟨K + 14, fun k hk => ?_⟩
  exact at_rounds (g := fun m => sval k l m s) (fun m => sval_more k l m s) (by omega : 14 ≤ k) (hK k (by omega))
/-! ### the best signs -/
def bstL (G : Int → Int) (v : Int) : List Int → ByteArray → ByteArray
  | [], o => o
  | c :: t, o => bstL G v t (if G c = v then o ++ sg c else o)
def bestB (l : List Int) (s : ByteArray) : ByteArray := bstL (gv l (vl l 14) s) (vl l 14 s) (slO l s) ⟨#[]⟩
theorem slO_eq {l : List Int} {s : ByteArray} {p q : Int} (hb : beg (l.length : Int) (bs s) 0 0 = some (p, q)) : slO l s = sl (l.length : Int) p q := by unfold slO; rw [hb]
theorem bstL_size (G : Int → Int) (v : Int) : ∀ L o, (bstL G v L o).size ≤ o.size + L.length
  | [], o => Nat.le_refl _
  | c :: t, o => by
    simp only [bstL]
    have := bstL_size G v t (if G c = v then o ++ sg c else o)
    split at this
    · rename_i h
      rw [size_append, sg_size] at this
      simp only [h, ↓reduceIte, List.length_cons]
      omega
    · rename_i h
      simp only [h, ↓reduceIte, List.length_cons]
      omega
theorem bestB_size (l : List Int) (s : ByteArray) : (bestB l s).size ≤ 2 := by
  have h := bstL_size (gv l (vl l 14) s) (vl l 14 s) (slO l s) ⟨#[]⟩
  have h2 : (slO l s).length ≤ 2 := by
    unfold slO
    split
    · exact sl_len _ _ _
    · exact Nat.zero_le _
  have h3 : (⟨#[]⟩ : ByteArray).size = 0 := rfl
  unfold bestB
  omega
theorem ev_by (l : List Int) (s : ByteArray) (h : duelB l s = true) (p q : Int) (hb : beg (l.length : Int) (bs s) 0 0 = some (p, q)) (c : Int) (hc : c ∈ sl (l.length : Int) p q) : Ev (fun k => spec_l11By.f k l s (sg c)) (gv l (vl l 14) s c) :=
  ev_sby l (fun k => sval k l k) (vl l 14) s h p q hb c hc (ev_l11Value l _ (duel_step h hb hc))
theorem ev_gain (l : List Int) (s : ByteArray) (h : duelB l s = true) (p q : Int) (hb : beg (l.length : Int) (bs s) 0 0 = some (p, q)) (c : Int) (hc : c ∈ sl (l.length : Int) p q) : Ev (fun k => dgain k l (dval k l 14) s c) (gv l (vl l 14) s c) := by
  obtain ⟨h0, h1, h6, hl, _⟩ := duelB_facts h
  have hd := duel_step h hb hc
  have hc2 : c = 73 ∨ c = 79 := by rcases sl_mem hc with ⟨e, _⟩ | ⟨e, _⟩; exact .inl e; exact .inr e
  have hs1 : (s ++ sg c).size = s.size + 1 := by rw [size_append, sg_size]
  simp only [dgain, show ((c = 73 ∨ c = 79) ∧ s.size ≤ 1000) = True from eq_true ⟨hc2, by omega⟩, ↓reduceIte]
  refine Ev.bind (ev_stackAfter l (s ++ sg c) hd (by omega)) ?_
  refine Ev.bind (ev_dval l 14 (s ++ sg c) hd (by omega)) ?_
  have e : (stk (bs (s ++ sg c)) l [] 0).2 = if c = 79 then (stk (bs s) l [] 0).1.getLastD 0 else 0 := by
    rw [bs_append, sg_bs hc2, stk_snoc]
    rcases hc2 with rfl | rfl <;> rfl
  rw [e]
  exact Ev.now _
theorem signs_length (n p q : Int) : (signs n p q).size = (sl n p q).length := by rw [← bs_length, signs_bs]
theorem ev_best_l0 (l : List Int) (s : ByteArray) (H : Int → Int) (v : Int) (n p q : Int) (hH : ∀ c ∈ sl n p q, Ev (fun k => spec_l11By.f k l s (sg c)) (H c)) : ∀ (d j : Nat) (out : ByteArray), j + d = (sl n p q).length → out.size + d ≤ 1000 → Ev (fun k => spec_l11Best.l0 k l s out v (signs n p q) (j : Int)) (bstL H v ((sl n p q).drop j) out)
  | 0, j, out, hj, ho => by
    rw [List.drop_of_length_le (by omega)]
    have c : ¬ (j : Int) < ((signs n p q).size : Int) := by rw [signs_length]; omega
    exact Ev.step (fun k => by simp only [spec_l11Best.l0, c, ↓reduceIte] <;> rfl) (Ev.now _)
  | d + 1, j, out, hj, ho => by
    have hl2 := sl_len n p q
    have c : (j : Int) < ((signs n p q).size : Int) := by rw [signs_length]; omega
    have c0 : 0 ≤ (j : Int) := by omega
    have e1 : wrap64 ((j : Int) + 1) = ((j + 1 : Nat) : Int) := wj (by omega)
    have c1 : (j : Int) ≤ ((j + 1 : Nat) : Int) := by omega
    have c2 : ((j + 1 : Nat) : Int) ≤ ((signs n p q).size : Int) := by rw [signs_length]; omega
    have hj' : j < (sl n p q).length := by omega
    have e2 := signs_cut n p q j hj'
    rw [List.drop_eq_getElem_cons hj']
    have hs := sg_size ((sl n p q)[j]'hj')
    have lim : out.size + 1 ≤ 9223372036854775807 := by omega
    refine Ev.step (f := fun k => (spec_l11By.f k l s (sg ((sl n p q)[j]'hj'))).bind fun t => if t = v then spec_l11Best.l0 k l s (out ++ sg ((sl n p q)[j]'hj')) v (signs n p q) ((j + 1 : Nat) : Int) else spec_l11Best.l0 k l s out v (signs n p q) ((j + 1 : Nat) : Int)) (fun k => ?_) ?_
    · simp only [spec_l11Best.l0, c, c0, e1, c1, c2, Int.toNat_natCast, e2, hs, lim, ↓reduceIte]
    · refine Ev.bind (hH _ (List.getElem_mem hj')) ?_
      simp only [bstL]
      by_cases hv : H ((sl n p q)[j]'hj') = v
      · simp only [hv, ↓reduceIte]
        exact ev_best_l0 l s H v n p q hH d (j + 1) _ (by omega) (by rw [size_append, hs]; omega)
      · simp only [hv, ↓reduceIte]
        exact ev_best_l0 l s H v n p q hH d (j + 1) _ (by omega) (by omega)
theorem ev_l11Best (l : List Int) (s : ByteArray) (h : duelB l s = true) : Ev (fun k => spec_l11Best.f k l s) (bestB l s) := by
  obtain ⟨h0, h1, h6, hl, p, q, hb⟩ := duelB_facts h
  unfold spec_l11Best.f bestB
  refine Ev.bind (ev_l11Value l s h) ?_
  refine Ev.bind (ev_l11Signs (l.length : Int) s (by omega) p q (isBeg_of h) hb) ?_
  rw [slO_eq hb]
  have hl2 := sl_len (l.length : Int) p q
  exact ev_best_l0 l s (gv l (vl l 14) s) (vl l 14 s) (l.length : Int) p q (fun c hc => ev_by l s h p q hb c hc) (sl (l.length : Int) p q).length 0 ⟨#[]⟩ (by omega) (by show 0 + _ ≤ _; omega)
theorem ev_blp (G : Nat → Int → Option Int) (H : Int → Int) (V : Nat → Option Int) (v : Int) (hV : Ev V v) : ∀ (L : List Int) (out : ByteArray), out.size + L.length ≤ 1000 → (∀ c ∈ L, Ev (fun k => G k c) (H c)) → Ev (fun k => blp (G k) (V k) L out) (bstL H v L out)
  | [], out, _, _ => Ev.now _
  | c :: t, out, ho, h => by
    rw [List.length_cons] at ho
    simp only [blp, bstL, show (out.size ≤ 1000) = True from eq_true (by omega), ↓reduceIte]
    refine Ev.bind (h c (List.mem_cons_self)) (Ev.bind hV ?_)
    refine ev_blp G H V v hV t _ ?_ fun x hx => h x (List.mem_cons_of_mem _ hx)
    split
    · rw [size_append, sg_size]; omega
    · omega
theorem ev_dbest (l : List Int) (s : ByteArray) (h : duelB l s = true) : Ev (fun k => dbest k l s) (bestB l s) := by
  obtain ⟨h0, h1, h6, hl, p, q, hb⟩ := duelB_facts h
  unfold dbest bestB
  refine Ev.bind (ev_nextSigns (l.length : Int) s (by omega) p q (isBeg_of h) hb) ?_
  have hl2 := sl_len (l.length : Int) p q
  simp only [show ((signs (l.length : Int) p q).size ≤ 2 ∧ s.size ≤ 1000) = True from eq_true ⟨by rw [signs_length]; exact hl2, by omega⟩, ↓reduceIte]
  rw [show bytesOf (signs (l.length : Int) p q) = sl (l.length : Int) p q from signs_bs _ _ _, slO_eq hb]
  exact ev_blp (fun k => dgain k l (dval k l 14) s) _ (fun k => dval k l 14 s) _ (ev_dval l 14 s h (by omega)) _ _ (by show 0 + _ ≤ _; omega) fun c hc => ev_gain l s h p q hb c hc
/-! ### bounds; the value is the greatest gain -/
theorem stk_bound : ∀ (a rest st : List Int) (pd : Int), (∀ x ∈ rest, 0 ≤ x ∧ x ≤ 7) → (∀ x ∈ st, 0 ≤ x ∧ x ≤ 7) → ∀ x ∈ (stk a rest st pd).1, 0 ≤ x ∧ x ≤ 7
  | [], rest, st, pd, _, h => h
  | c :: t, rest, st, pd, hr, hs => by
    simp only [stk]
    split
    · refine stk_bound t _ _ _ (fun x hx => hr x (List.mem_of_mem_tail hx)) ?_
      intro x hx
      rcases List.mem_append.1 hx with hx | hx
      · exact hs x hx
      · rw [List.mem_singleton] at hx
        subst hx
        cases rest with
        | nil => exact ⟨by decide, by decide⟩
        | cons y ys => exact hr y List.mem_cons_self
    · exact stk_bound t _ _ _ hr (fun x hx => hs x ((List.dropLast_sublist st).subset hx))
theorem last_bound {t : List Int} (h : ∀ x ∈ t, 0 ≤ x ∧ x ≤ 7) : 0 ≤ t.getLastD 0 ∧ t.getLastD 0 ≤ 7 := by
  rcases snoc_cases t with rfl | ⟨m, x, rfl⟩
  · exact ⟨by decide, by decide⟩
  · have := h x (by simp)
    rw [show (m ++ [x]).getLastD 0 = x by simp]
    exact this
theorem gv_bound {l : List Int} (h : ordB l = true) (V : ByteArray → Int) (B : Int) (hB : B ≤ 1000) (s : ByteArray) (c : Int) (hV : ∀ s, -B ≤ V s ∧ V s ≤ B) : -(B + 7) ≤ gv l V s c ∧ gv l V s c ≤ B + 7 := by
  have hx : 0 ≤ (if c = 79 then (stk (bs s) l [] 0).1.getLastD 0 else 0) ∧ (if c = 79 then (stk (bs s) l [] 0).1.getLastD 0 else 0) ≤ 7 := by
    split
    · refine last_bound (stk_bound _ _ _ _ (fun x hx => ?_) (fun x hx => absurd hx (by simp)))
      have h7 := (ordB_len h).2
      have := ordB_range h x hx
      omega
    · exact ⟨by decide, by decide⟩
  have hv := hV (s ++ sg c)
  unfold gv
  rw [wr (by omega) (by omega)]
  omega
theorem lp_bound (G : Int → Int) (B : Int) (hG : ∀ c, -B ≤ G c ∧ G c ≤ B) : ∀ (L : List Int) (f : Bool) (b : Int), -B ≤ b ∧ b ≤ B → -B ≤ lp G L f b ∧ lp G L f b ≤ B
  | [], f, b, h => h
  | c :: t, f, b, h => by
    simp only [lp]
    refine lp_bound G B hG t _ _ ?_
    split
    · exact hG c
    · exact h
theorem vl_bound {l : List Int} (h : ordB l = true) : ∀ (m : Nat), m ≤ 100 → ∀ s, -(7 * (m : Int)) ≤ vl l m s ∧ vl l m s ≤ 7 * (m : Int)
  | 0, _, s => ⟨by simp [vl], by simp [vl]⟩
  | m + 1, hm, s => by
    simp only [vl]
    refine lp_bound _ (7 * ((m + 1 : Nat) : Int)) (fun c => ?_) _ _ _ ⟨by omega, by omega⟩
    have := gv_bound h (vl l m) (7 * (m : Int)) (by omega) s c (vl_bound h m (by omega))
    omega
theorem vl_more {l : List Int} {m : Nat} {s : ByteArray} (h : duelB l s = true) (hm : 2 * l.length < m + s.size) : vl l m s = vl l (m + 1) s := by
  obtain ⟨K1, h1⟩ := ev_dval l m s h hm
  obtain ⟨K2, h2⟩ := ev_dval l (m + 1) s h (by omega)
  exact dval_one (h1 (K1 + K2) (by omega)) (h2 (K1 + K2) (by omega))
theorem lp_congr {G H : Int → Int} : ∀ (L : List Int) (f : Bool) (b : Int), (∀ c ∈ L, G c = H c) → lp G L f b = lp H L f b
  | [], f, b, _ => rfl
  | c :: t, f, b, h => by
    simp only [lp, h c List.mem_cons_self]
    exact lp_congr t _ _ fun x hx => h x (List.mem_cons_of_mem _ hx)
theorem vl_eq {l : List Int} {s : ByteArray} (h : duelB l s = true) {p q : Int} (hb : beg (l.length : Int) (bs s) 0 0 = some (p, q)) : vl l 14 s = lp (gv l (vl l 14) s) (sl (l.length : Int) p q) true 0 := by
  obtain ⟨h0, h1, h6, hl, _⟩ := duelB_facts h
  show lp (gv l (vl l 13) s) (slO l s) true 0 = _
  rw [slO_eq hb]
  refine lp_congr _ _ _ fun c hc => ?_
  unfold gv
  rw [vl_more (duel_step h hb hc) (by rw [size_append, sg_size]; omega)]
/-! ### what the best signs are -/
theorem bstL_bs (G : Int → Int) (v : Int) : ∀ (L : List Int) (o : ByteArray), (∀ c ∈ L, c = 73 ∨ c = 79) → bs (bstL G v L o) = bs o ++ L.filter (fun c => decide (G c = v))
  | [], o, _ => by simp [bstL]
  | c :: t, o, h => by
    simp only [bstL]
    rw [bstL_bs G v t _ fun x hx => h x (List.mem_cons_of_mem _ hx)]
    by_cases hv : G c = v
    · rw [if_pos hv, List.filter_cons_of_pos (by simp [hv]), bs_append, sg_bs (h c List.mem_cons_self)]
      simp
    · rw [if_neg hv, List.filter_cons_of_neg (by simp [hv])]
theorem sl_sign {n p q : Int} : ∀ c ∈ sl n p q, c = 73 ∨ c = 79 := fun c hc => by rcases sl_mem hc with ⟨e, _⟩ | ⟨e, _⟩; exact .inl e; exact .inr e
theorem bestB_bs {l : List Int} {s : ByteArray} {p q : Int} (hb : beg (l.length : Int) (bs s) 0 0 = some (p, q)) : bs (bestB l s) = (sl (l.length : Int) p q).filter (fun c => decide (gv l (vl l 14) s c = vl l 14 s)) := by
  unfold bestB
  rw [slO_eq hb, bstL_bs _ _ _ _ sl_sign]
  rfl
theorem best_mem {l : List Int} {s : ByteArray} {p q : Int} (hb : beg (l.length : Int) (bs s) 0 0 = some (p, q)) {c : Int} (hc : c ∈ bs (bestB l s)) : c ∈ sl (l.length : Int) p q := by
  rw [bestB_bs hb] at hc
  exact (List.mem_filter.1 hc).1
theorem best_ne {l : List Int} {s : ByteArray} (h : duelB l s = true) {p q : Int} (hb : beg (l.length : Int) (bs s) 0 0 = some (p, q)) (hne : p < (l.length : Int) ∨ q < p) : bs (bestB l s) ≠ [] := by
  rw [bestB_bs hb]
  have hv := vl_eq h hb
  generalize gv l (vl l 14) s = G at hv ⊢
  generalize vl l 14 s = V at hv ⊢
  generalize (l.length : Int) = n at hv hne ⊢
  intro hf
  rw [List.filter_eq_nil_iff] at hf
  unfold sl at hv hf
  by_cases h1 : p < n <;> by_cases h2 : q < p
  · simp only [h1, h2, ↓reduceIte, List.cons_append, List.nil_append, lp, true_or, Bool.false_eq_true, false_or] at hv hf
    have f1 := hf 73 (by simp)
    have f2 := hf 79 (by simp)
    simp only [decide_eq_true_eq] at f1 f2
    split at hv <;> omega
  · simp only [h1, h2, ↓reduceIte, List.append_nil, lp, true_or] at hv hf
    have f1 := hf 73 (by simp)
    simp only [decide_eq_true_eq] at f1
    omega
  · simp only [h1, h2, ↓reduceIte, List.nil_append, lp, true_or] at hv hf
    have f1 := hf 79 (by simp)
    simp only [decide_eq_true_eq] at f1
    omega
  · omega
theorem cut_sg (t : ByteArray) (j : Nat) (hj : j < (bs t).length) (h : ∀ c ∈ bs t, c = 73 ∨ c = 79) : t.extract j (j + 1) = sg ((bs t)[j]'hj) := by
  apply bs_inj
  rw [sg_bs (h _ (List.getElem_mem hj))]
  have hj' : j < t.data.toList.length := by simpa [bs] using hj
  have e : (bs t)[j]'hj = ((t.data.toList[j]'hj').toNat : Int) := by simp [bs]
  rw [e]
  unfold bs
  rw [ByteArray.data_extract, Array.toList_extract, List.extract_eq_take_drop, Nat.add_sub_cancel_left, List.drop_eq_getElem_cons hj']
  rfl
/-! ### the whole word -/
def dw (l : List Int) : Nat → ByteArray → ByteArray
  | 0, s => s
  | m + 1, s => if (bestB l s).toList = ([] : List UInt8) then s else dw l m (s ++ (bestB l s).extract 0 1)
theorem best_cases {l : List Int} {s : ByteArray} {p q : Int} (hb : beg (l.length : Int) (bs s) 0 0 = some (p, q)) : bestB l s = ⟨#[]⟩ ∨ bestB l s = ⟨#[73]⟩ ∨ bestB l s = ⟨#[79]⟩ ∨ bestB l s = ⟨#[73, 79]⟩ := by
  have h := bestB_bs hb
  have h' : bs (bestB l s) = [] ∨ bs (bestB l s) = [73] ∨ bs (bestB l s) = [79] ∨ bs (bestB l s) = [73, 79] := by
    rw [h]
    unfold sl
    generalize gv l (vl l 14) s = G
    generalize vl l 14 s = V
    by_cases h1 : p < (l.length : Int) <;> by_cases h2 : q < p <;> by_cases h3 : G 73 = V <;> by_cases h4 : G 79 = V <;> simp [h1, h2, h3, h4]
  rcases h' with h | h | h | h
  · exact .inl (bs_inj h)
  · exact .inr (.inl (bs_inj h))
  · exact .inr (.inr (.inl (bs_inj h)))
  · exact .inr (.inr (.inr (bs_inj h)))
theorem best_head {l : List Int} {s : ByteArray} {p q : Int} (hb : beg (l.length : Int) (bs s) 0 0 = some (p, q)) (hne : bs (bestB l s) ≠ []) : ¬ (bestB l s).toList = ([] : List UInt8) ∧ 1 ≤ (bestB l s).size ∧ ∃ c ∈ sl (l.length : Int) p q, (bestB l s).extract 0 1 = sg c := by
  have hlen : 0 < (bs (bestB l s)).length := List.length_pos_iff.2 hne
  refine ⟨?_, by rw [← bs_length]; exact hlen, (bs (bestB l s))[0]'hlen, best_mem hb (List.getElem_mem hlen), cut_sg _ 0 hlen fun c hc => sl_sign c (best_mem hb hc)⟩
  rcases best_cases hb with h | h | h | h <;> rw [h] at hne ⊢
  · exact absurd rfl hne
  · decide +kernel
  · decide +kernel
  · decide +kernel
theorem best_end {l : List Int} {s : ByteArray} {p q : Int} (hb : beg (l.length : Int) (bs s) 0 0 = some (p, q)) (h1 : ¬ p < (l.length : Int)) (h2 : ¬ q < p) : (bestB l s).toList = ([] : List UInt8) := by
  have e : bs (bestB l s) = [] := by rw [bestB_bs hb]; unfold sl; simp only [h1, h2, ↓reduceIte]; rfl
  rw [show bestB l s = ⟨#[]⟩ from bs_inj e]
  decide +kernel
theorem dw_size (l : List Int) : ∀ m s, (dw l m s).size ≤ s.size + m
  | 0, s => Nat.le_refl _
  | m + 1, s => by
    simp only [dw]
    split
    · omega
    · have := dw_size l m (s ++ (bestB l s).extract 0 1)
      rw [size_append, ByteArray.size_extract] at this
      omega
theorem ev_dword (l : List Int) : ∀ (m : Nat) (s : ByteArray), duelB l s = true → 2 * l.length < m + s.size → Ev (fun k => dword k l m s (bestB l s)) (dw l m s)
  | 0, s, h, hm => by
    obtain ⟨_, _, _, hl, _⟩ := duelB_facts h
    omega
  | m + 1, s, h, hm => by
    obtain ⟨h0, h1, h6, hl, p, q, hb⟩ := duelB_facts h
    simp only [dword, dw]
    by_cases he : (bestB l s).toList = ([] : List UInt8)
    · simp only [he, ↓reduceIte]
      exact Ev.now _
    · simp only [he, ↓reduceIte]
      have hne : bs (bestB l s) ≠ [] := by
        intro hz
        rw [show bestB l s = ⟨#[]⟩ from bs_inj hz] at he
        exact he (by decide +kernel)
      obtain ⟨_, hs1, c, hc, hx⟩ := best_head hb hne
      rw [hx]
      have hd := duel_step h hb hc
      simp only [show (1 ≤ ((bestB l s).size : Int) ∧ s.size + (sg c).size ≤ 9223372036854775807) = True from eq_true ⟨by omega, by rw [sg_size]; omega⟩, ↓reduceIte]
      exact Ev.bind (ev_dbest l _ hd) (ev_dword l m _ hd (by rw [size_append, sg_size]; omega))
theorem ev_specWord (l : List Int) : ∀ (m : Nat) (s : ByteArray), duelB l s = true → 2 * l.length < m + s.size → Ev (fun k => spec_DuelWord.l0 k l s) (dw l m s, true)
  | 0, s, h, hm => by
    obtain ⟨_, _, _, hl, _⟩ := duelB_facts h
    omega
  | m + 1, s, h, hm => by
    obtain ⟨h0, h1, h6, hl, p, q, hb⟩ := duelB_facts h
    have e2 : wrap64 (2 * (l.length : Int)) = 2 * (l.length : Int) := wr (by omega) (by omega)
    have b := beg_bounds (l.length : Int) (bs s) 0 0 p q (by omega) (by omega) hb
    rw [bs_length] at b
    simp only [dw]
    by_cases hlt : (s.size : Int) < 2 * (l.length : Int)
    · obtain ⟨he, hs1, c, hc, hx⟩ := best_head hb (best_ne h hb (by omega))
      simp only [he, ↓reduceIte]
      have hd := duel_step h hb hc
      have hs1' : 1 ≤ ((bestB l s).size : Int) := by omega
      have lim : s.size + 1 ≤ 9223372036854775807 := by omega
      have hsz := sg_size c
      rw [hx]
      refine Ev.step (f := fun k => (spec_l11Best.f k l s).bind fun t321 => (if 0 ≤ 1 then (if 1 ≤ (t321.size : Int) then (if s.size + (t321.extract 0 1).size ≤ 9223372036854775807 then (spec_DuelWord.l0 k l (s ++ (t321.extract 0 1))) else (none)) else (none)) else (none))) (fun k => by simp only [spec_DuelWord.l0, e2, hlt, ↓reduceIte]) ?_
      refine Ev.bind (ev_l11Best l s h) ?_
      simp only [hs1', hx, hsz, lim, show (0 ≤ 1) = True by decide, ↓reduceIte]
      exact ev_specWord l m _ hd (by rw [size_append, sg_size]; omega)
    · simp only [best_end hb (by omega) (by omega), ↓reduceIte]
      exact Ev.step (f := fun _ => some (s, true)) (fun k => by simp only [spec_DuelWord.l0, e2, hlt, ↓reduceIte]) (Ev.now _)
/-! ### copies of lists, lists compared -/
theorem ev_toIntS_l0 (l : List Int) (hl : l.length ≤ 1048576) (d : Nat) : ∀ j : Nat, j + d = l.length → Ev (fun k => laws_toIntS.l0 k l (l.take j ++ List.replicate (l.length - j) 0) (j : Int)) l := by
  induction d with
  | zero =>
    intro j hj
    have c : ¬ (j : Int) < (l.length : Int) := by omega
    have e : l.take j ++ List.replicate (l.length - j) 0 = l := by rw [List.take_of_length_le (by omega), show l.length - j = 0 by omega]; simp
    rw [e]
    exact Ev.step (fun k => by simp only [laws_toIntS.l0, c, ↓reduceIte] <;> rfl) (Ev.now _)
  | succ d ih =>
    intro j hj
    have c : (j : Int) < (l.length : Int) := by omega
    have c0 : 0 ≤ (j : Int) := by omega
    have c1 : (j : Int) < (((l.take j ++ List.replicate (l.length - j) 0).length : Nat) : Int) := by simp; omega
    have e1 : wrap64 ((j : Int) + 1) = ((j + 1 : Nat) : Int) := wj (by omega)
    exact Ev.step (fun k => by simp only [laws_toIntS.l0, c, c0, c1, ↓reduceIte]; rw [e1, Int.toNat_natCast, set_copy l j (by omega)]) (ih (j + 1) (by omega))
theorem ev_toIntS (l : List Int) (hl : l.length ≤ 1048576) : Ev (fun k => laws_toIntS.f k l) l := by
  have c0 : 0 ≤ (l.length : Int) := by omega
  have c1 : l.length ≤ 35184372088832 := by omega
  have := ev_toIntS_l0 l hl l.length 0 (by omega)
  simp only [List.take_zero, List.nil_append, Nat.sub_zero] at this
  simp only [laws_toIntS.f, c0, c1, Int.toNat_natCast, ↓reduceIte]
  exact this
theorem ev_eqIntS_l0 (l : List Int) (hl : l.length < 9223372036854775807) (d : Nat) : ∀ j : Nat, j + d = l.length → Ev (fun k => laws_eqIntS.l0 k l l (j : Int)) true := by
  induction d with
  | zero =>
    intro j hj
    have c : ¬ (j : Int) < (l.length : Int) := by omega
    exact Ev.step (fun k => by simp only [laws_eqIntS.l0, c, ↓reduceIte] <;> rfl) (Ev.now _)
  | succ d ih =>
    intro j hj
    have c : (j : Int) < (l.length : Int) := by omega
    have c0 : 0 ≤ (j : Int) := by omega
    have e1 : wrap64 ((j : Int) + 1) = ((j + 1 : Nat) : Int) := wj (by omega)
    exact Ev.step (fun k => by simp only [laws_eqIntS.l0, c, c0, e1, ↓reduceIte] <;> rfl) (ih (j + 1) (by omega))
/-- A list is equal to itself. -/
theorem ev_eqIntS (l : List Int) (hl : l.length < 9223372036854775807) : Ev (fun k => laws_eqIntS.f k l l) true := by
  simp only [laws_eqIntS.f, ↓reduceIte]
  exact ev_eqIntS_l0 l hl l.length 0 (by omega)
theorem FnExactDuelWord : laws_FnExactDuelWord.Pure := by
  intro l s _ _ _ _
  by_cases hl : (l.length : Int) > 1048576
  · exact ⟨0, by simp only [laws_FnExactDuelWord.f, hl, ↓reduceIte]⟩
  · by_cases hs : (s.size : Int) > 1048576
    · exact ⟨0, by simp only [laws_FnExactDuelWord.f, hl, hs, ↓reduceIte]⟩
    · refine Ev.rounds (g := fun k => laws_FnExactDuelWord.f k l s) ?_
      simp only [laws_FnExactDuelWord.f, hl, hs, ↓reduceIte]
      have t := ev_toIntS l (by omega)
      have r1 : Ev (fun k => spec_DuelWord.f k l s) (if duelB l s = true then (dw l 20 s, true) else (⟨#[]⟩, false)) := by
        unfold spec_DuelWord.f
        refine Ev.bind (ev_l11Good l s (by omega)) ?_
        by_cases h : duelB l s = true
        · obtain ⟨_, _, h6, _⟩ := duelB_facts h
          simp only [h, ↓reduceIte]
          exact ev_specWord l 20 s h (by omega)
        · simp only [h, Bool.false_eq_true, ↓reduceIte]
          exact Ev.now _
      have r2 : Ev (fun k => impl_DuelWord.f k l s) (if duelB l s = true then (dw l 20 s, true) else (⟨#[]⟩, false)) := by
        unfold impl_DuelWord.f
        refine Ev.bind (ev_isDuel l s (by omega)) ?_
        by_cases h : duelB l s = true
        · obtain ⟨_, _, h6, _⟩ := duelB_facts h
          simp only [h, ↓reduceIte]
          refine Ev.bind (ev_dbest l s h) (Ev.bind (ev_dword l 20 s h (by omega)) ?_)
          have hz := dw_size l 20 s
          simp only [strings_Clone.f, show ((dw l 20 s).size ≤ 1000000000) = True from eq_true (by omega), ↓reduceIte, Option.bind_some]
          exact Ev.now _
        · simp only [h, Bool.false_eq_true, ↓reduceIte]
          exact Ev.now _
      refine Ev.bind t (Ev.bind r1 (Ev.bind t (Ev.bind r2 ?_)))
      simp only [bne_self_eq_false, ↓reduceIte]
      refine Ev.step (f := fun k => (laws_toIntS.f k l).bind fun t185 => ((laws_eqIntS.f k l t185).bind fun t188 => (if t188 = true then (some true) else (some false)))) (fun k => by simp only [laws_FnExactDuelWord.j0, Bool.false_eq_true, ↓reduceIte]) ?_
      refine Ev.bind t (Ev.bind (ev_eqIntS l (by omega)) ?_)
      simp only [↓reduceIte]
      exact Ev.now _

end Go.Proofs.Ytgilgogjffnodaa.Pure
