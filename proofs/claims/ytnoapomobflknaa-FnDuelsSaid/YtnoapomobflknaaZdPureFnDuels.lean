/- FnDuels: a best sign keeps the value, who is to go on gets the number on top by a pop, and scores are all numbers together. -/
import Derived.Test.YtnoapomobflknaaZdXd12
import Derived.Test.YtnoapomobflknaaZdXdHduel
import Derived.Test.YtnoapomobflknaaZdXdHspecval
import Derived.Test.YtnoapomobflknaaZdXdHbest
import Derived.Test.YtnoapomobflknaaZdXdHworst
import Derived.Test.YtnoapomobflknaaZdXdHscores
import Derived.Test.YtnoapomobflknaaZdXd11
import Derived.Test.YtnoapomobflknaaZdXd10
import Derived.Test.YtnoapomobflknaaZdXd4
import Derived.Test.YtnoapomobflknaaZdXd5
import Derived.Test.YtnoapomobflknaaZdXd6
import Derived.Test.YtnoapomobflknaaZdXd9
import Derived.Test.YtnoapomobflknaaZdXd7
import Derived.Test.YtnoapomobflknaaZdXd8
import Derived.Test.YtnoapomobflknaaZdXd2
import Derived.Test.YtnoapomobflknaaZdXd3
import Derived.Test.YtnoapomobflknaaZdXdHspoilt
import Derived.Test.YtnoapomobflknaaZdPk
import Derived.Laws.BitsLemmas
import Derived.OpenShut
set_option linter.unusedVariables false
set_option linter.unusedSimpArgs false
namespace Go.Proofs.Ytnoapomobflknaa.Pure
open Go.RowKit Go.Proofs.Ytnoapomobflknaa.Xd Go.Proofs.YtnoapomobflknaaW.PrintWords Go.Proofs.YtnoapomobflknaaW.PrintLast Go.Proofs.Ytnoapomobflknaa.Pk

theorem ev_l1In' (a b c : Int) : spec_l1In.f a b c = some (decide (b ≤ a) && decide (a ≤ c)) := by
  unfold spec_l1In.f
  by_cases h : b ≤ a
  · rw [if_pos h, decide_eq_true h, Bool.true_and]
  · rw [if_neg h, decide_eq_false h, Bool.false_and]
/-! ### is a list an order? -/
theorem ev_l1Has_l0 (l : List Int) (x : Int) (hl : l.length < 9223372036854775807) (d : Nat) : ∀ j : Nat, j + d = l.length → Ev (fun k => spec_l1Has.l0 k l x (j : Int)) ((l.drop j).contains x) := by
  induction d with
  | zero =>
    intro j hj
    have c : ¬ (j : Int) < (l.length : Int) := by omega
    rw [List.drop_of_length_le (by omega)]
    exact Ev.step (fun k => by simp only [spec_l1Has.l0, c, ↓reduceIte] <;> rfl) (Ev.now _)
  | succ d ih =>
    intro j hj
    have c : (j : Int) < (l.length : Int) := by omega
    have c0 : 0 ≤ (j : Int) := by omega
    have e1 : wrap64 ((j : Int) + 1) = ((j + 1 : Nat) : Int) := wj (by omega)
    rw [rd_drop l j (by omega), List.contains_cons]
    by_cases h : rd l (j : Int) = x
    · have : (x == rd l (j : Int)) = true := by rw [h]; exact beq_self_eq_true x
      rw [this, Bool.true_or]
      exact Ev.step (fun k => by simp only [spec_l1Has.l0, c, c0, h, ↓reduceIte] <;> rfl) (Ev.now _)
    · have : (x == rd l (j : Int)) = false := beq_eq_false_iff_ne.2 (fun e => h e.symm)
      rw [this, Bool.false_or]
      exact Ev.step (fun k => by simp only [spec_l1Has.l0, c, c0, h, e1, ↓reduceIte]) (ih (j + 1) (by omega))
theorem ev_l1Has (l : List Int) (x : Int) (hl : l.length < 9223372036854775807) : Ev (fun k => spec_l1Has.f k l x) (l.contains x) := by
  have := ev_l1Has_l0 l x hl l.length 0 (by omega)
  rw [List.drop_zero] at this
  exact this
theorem ev_l2Order_l0 (l : List Int) (hl : l.length ≤ 7) (d : Nat) : ∀ j : Nat, j + d = l.length → Ev (fun k => spec_l2Order.l0 k l (j : Int)) (chk l.length (l.take j) (l.drop j)) := by
  induction d with
  | zero =>
    intro j hj
    have c : ¬ (j : Int) < (l.length : Int) := by omega
    rw [List.drop_of_length_le (by omega)]
    exact Ev.step (fun k => by simp only [spec_l2Order.l0, c, ↓reduceIte] <;> rfl) (Ev.now _)
  | succ d ih =>
    intro j hj
    have c : (j : Int) < (l.length : Int) := by omega
    have c0 : 0 ≤ (j : Int) := by omega
    have c1 : (j : Int) ≤ (l.length : Int) := by omega
    have e1 : wrap64 ((j : Int) + 1) = ((j + 1 : Nat) : Int) := wj (by omega)
    rw [rd_drop l j (by omega), chk, ← take_succ l j (by omega)]
    by_cases h : (decide (1 ≤ rd l (j : Int)) && decide (rd l (j : Int) ≤ (l.length : Int))) = true
    · rw [h, Bool.true_and]
      refine Ev.step (f := fun k => (spec_l1Has.f k (l.take j) (rd l (j : Int))).bind fun t => if t = true then some false else spec_l2Order.l0 k l ((j + 1 : Nat) : Int)) (fun k => by simp only [spec_l2Order.l0, c, c0, c1, ev_l1In', h, e1, Option.bind_some, Int.toNat_natCast, ↓reduceIte]) ?_
      refine Ev.bind (ev_l1Has (l.take j) _ (by rw [List.length_take]; omega)) ?_
      cases hc : (l.take j).contains (rd l (j : Int)) with
      | true =>
        simp only [↓reduceIte, Bool.not_true, Bool.false_and]
        exact Ev.now _
      | false =>
        simp only [Bool.false_eq_true, ↓reduceIte, Bool.not_false, Bool.true_and]
        exact ih (j + 1) (by omega)
    · have h' := Bool.eq_false_iff.2 h
      rw [h', Bool.false_and, Bool.false_and]
      exact Ev.step (fun k => by simp only [spec_l2Order.l0, c, c0, ev_l1In', h', Option.bind_some, Bool.false_eq_true, ↓reduceIte] <;> rfl) (Ev.now _)
theorem ev_l2Order (l : List Int) : Ev (fun k => spec_l2Order.f k l) (ordB l) := by
  unfold spec_l2Order.f ordB
  simp only [ev_l1In', Option.bind_some]
  by_cases h1 : 1 ≤ l.length
  · have g1 : (1 : Int) ≤ (l.length : Int) := by omega
    by_cases h7 : l.length ≤ 7
    · have g7 : (l.length : Int) ≤ 7 := by omega
      have := ev_l2Order_l0 l h7 l.length 0 (by omega)
      simp only [h1, h7, g1, g7, decide_true, Bool.and_true, Bool.true_and, ↓reduceIte]
      rw [List.take_zero, List.drop_zero] at this
      exact this
    · have g7 : ¬ (l.length : Int) ≤ 7 := by omega
      simp only [h7, g7, decide_false, Bool.and_false, Bool.false_and, Bool.false_eq_true, ↓reduceIte]
      exact Ev.now _
  · have g1 : ¬ (1 : Int) ≤ (l.length : Int) := by omega
    simp only [h1, g1, decide_false, Bool.false_and, Bool.false_eq_true, ↓reduceIte]
    exact Ev.now _
theorem ev_Index_l0 (l : List Int) (x : Int) (hl : l.length < 9223372036854775807) (d : Nat) : ∀ j : Nat, j + d = l.length → ∃ r : Int, Ev (fun k => slices_Index_int_int.l0 k l x (l.length : Int) (j : Int)) r ∧ decide (r ≥ 0) = (l.drop j).contains x := by
  induction d with
  | zero =>
    intro j hj
    have c : ¬ (j : Int) < (l.length : Int) := by omega
    rw [List.drop_of_length_le (by omega)]
    exact ⟨-1, Ev.step (fun k => by simp only [slices_Index_int_int.l0, c, ↓reduceIte] <;> rfl) (Ev.now _), rfl⟩
  | succ d ih =>
    intro j hj
    have c : (j : Int) < (l.length : Int) := by omega
    have c0 : 0 ≤ (j : Int) := by omega
    have e1 : wrap64 ((j : Int) + 1) = ((j + 1 : Nat) : Int) := wj (by omega)
    rw [rd_drop l j (by omega), List.contains_cons]
    by_cases h : x = rd l (j : Int)
    · have : (x == rd l (j : Int)) = true := beq_iff_eq.2 h
      rw [this, Bool.true_or]
      exact ⟨j, Ev.step (fun k => by simp only [slices_Index_int_int.l0, c, c0, ↓reduceIte]; rw [if_pos h]) (Ev.now _), by simp⟩
    · have : (x == rd l (j : Int)) = false := beq_eq_false_iff_ne.2 h
      rw [this, Bool.false_or]
      obtain ⟨r, hr, hd⟩ := ih (j + 1) (by omega)
      exact ⟨r, Ev.step (fun k => by simp only [slices_Index_int_int.l0, c, c0, h, e1, ↓reduceIte]) hr, hd⟩
theorem ev_Contains (l : List Int) (x : Int) (hl : l.length < 9223372036854775807) : Ev (fun k => slices_Contains_int_int.f k l x) (l.contains x) := by
  obtain ⟨r, hr, hd⟩ := ev_Index_l0 l x hl l.length 0 (by omega)
  rw [List.drop_zero] at hd
  unfold slices_Contains_int_int.f slices_Index_int_int.f
  refine Ev.bind hr ?_
  rw [hd]
  exact Ev.now _
theorem ev_isOrder_l0 (l : List Int) (hl : l.length ≤ 7) (d : Nat) : ∀ j : Nat, j + d = l.length → Ev (fun k => impl_isOrder.l0 k l l (l.length : Int) (j : Int)) (chk l.length (l.take j) (l.drop j)) := by
  induction d with
  | zero =>
    intro j hj
    have c : ¬ (j : Int) < (l.length : Int) := by omega
    rw [List.drop_of_length_le (by omega)]
    exact Ev.step (fun k => by simp only [impl_isOrder.l0, c, ↓reduceIte] <;> rfl) (Ev.now _)
  | succ d ih =>
    intro j hj
    have c : (j : Int) < (l.length : Int) := by omega
    have c0 : 0 ≤ (j : Int) := by omega
    have c1 : (j : Int) ≤ (l.length : Int) := by omega
    have e1 : wrap64 ((j : Int) + 1) = ((j + 1 : Nat) : Int) := wj (by omega)
    rw [rd_drop l j (by omega), chk, ← take_succ l j (by omega)]
    by_cases h1 : 1 ≤ rd l (j : Int)
    · have g1 : ¬ rd l (j : Int) < 1 := by omega
      by_cases h2 : rd l (j : Int) ≤ (l.length : Int)
      · have g2 : ¬ rd l (j : Int) > (l.length : Int) := by omega
        simp only [h1, h2, decide_true, Bool.true_and]
        refine Ev.step (f := fun k => (slices_Contains_int_int.f k (l.take j) (rd l (j : Int))).bind fun t => if t = true then some false else impl_isOrder.l0 k l l (l.length : Int) ((j + 1 : Nat) : Int)) (fun k => by simp only [impl_isOrder.l0, c, c0, c1, g1, g2, e1, Int.toNat_natCast, ↓reduceIte]) ?_
        refine Ev.bind (ev_Contains (l.take j) _ (by rw [List.length_take]; omega)) ?_
        cases hc : (l.take j).contains (rd l (j : Int)) with
        | true =>
          simp only [↓reduceIte, Bool.not_true, Bool.false_and]
          exact Ev.now _
        | false =>
          simp only [Bool.false_eq_true, ↓reduceIte, Bool.not_false, Bool.true_and]
          exact ih (j + 1) (by omega)
      · have g2 : rd l (j : Int) > (l.length : Int) := by omega
        simp only [h2, decide_false, Bool.and_false, Bool.false_and]
        exact Ev.step (fun k => by simp only [impl_isOrder.l0, c, c0, g1, g2, ↓reduceIte] <;> rfl) (Ev.now _)
    · have g1 : rd l (j : Int) < 1 := by omega
      simp only [h1, decide_false, Bool.false_and]
      exact Ev.step (fun k => by simp only [impl_isOrder.l0, c, c0, g1, ↓reduceIte] <;> rfl) (Ev.now _)
theorem ev_isOrder (l : List Int) : Ev (fun k => impl_isOrder.f k l) (ordB l) := by
  unfold impl_isOrder.f ordB
  by_cases h1 : 1 ≤ l.length
  · have g1 : ¬ (l.length : Int) < 1 := by omega
    by_cases h7 : l.length ≤ 7
    · have g7 : ¬ (l.length : Int) > 7 := by omega
      have := ev_isOrder_l0 l h7 l.length 0 (by omega)
      simp only [h1, h7, g1, g7, decide_true, decide_false, Bool.true_and, ↓reduceIte]
      refine Ev.step (fun k => by simp only [impl_isOrder.j0, Bool.false_eq_true, ↓reduceIte] <;> rfl) ?_
      rw [List.take_zero, List.drop_zero] at this
      exact this
    · have g7 : (l.length : Int) > 7 := by omega
      simp only [h7, g1, g7, decide_true, decide_false, Bool.and_false, Bool.false_and, ↓reduceIte]
      exact Ev.step (fun k => by simp only [impl_isOrder.j0, ↓reduceIte] <;> rfl) (Ev.now _)
  · have g1 : (l.length : Int) < 1 := by omega
    simp only [h1, g1, decide_false, Bool.false_and, ↓reduceIte]
    exact Ev.step (fun k => by simp only [impl_isOrder.j0, ↓reduceIte] <;> rfl) (Ev.now _)
/-! ### what the reference and the program tell of beginnings -/
def begR : Option (Int × Int) → Int
  | some (p, q) => p - q
  | none => -1
theorem ev_l1In (a b c : Int) : spec_l1In.f a b c = some (decide (b ≤ a) && decide (a ≤ c)) := by
  unfold spec_l1In.f
  by_cases h : b ≤ a
  · rw [if_pos h, decide_eq_true h, Bool.true_and]
  · rw [if_neg h, decide_eq_false h, Bool.false_and]
theorem ev_l11In_l0 (n : Int) (s : ByteArray) (hn0 : 1 ≤ n) (hn6 : n ≤ 6) (hs : s.size ≤ 1048576) (d : Nat) : ∀ (j : Nat) (p q : Int), j + d = s.size → 0 ≤ q → q ≤ p → p ≤ n →
    Ev (fun k => spec_l11In.l0 k n s (p - q) p (j : Int)) (begR (beg n ((bs s).drop j) p q)) := by
  induction d with
  | zero =>
    intro j p q hj h0 h1 h2
    rw [bs_end s j (by omega)]
    have c : ¬ (j : Int) < (s.size : Int) := by omega
    exact Ev.step (fun k => by simp only [spec_l11In.l0, c, ↓reduceIte] <;> rfl) (Ev.now _)
  | succ d ih =>
    intro j p q hj h0 h1 h2
    rw [bs_drop s j (by omega)]
    have c : (j : Int) < (s.size : Int) := by omega
    have c0 : 0 ≤ (j : Int) := by omega
    have e1 : wrap64 ((j : Int) + 1) = ((j + 1 : Nat) : Int) := wj (by omega)
    simp only [beg]
    by_cases hI : bt s (j : Int) = 73
    · simp only [hI, ↓reduceIte]
      by_cases hp : p < n
      · simp only [hp, ↓reduceIte]
        have ih' := ih (j + 1) (p + 1) q (by omega) h0 (by omega) (by omega)
        rw [show p + 1 - q = p - q + 1 by omega] at ih'
        refine Ev.step (fun k => by simp only [spec_l11In.l0, c, c0, hI, hp, decide_true, ↓reduceIte] <;> rfl) (Ev.step (f := fun k => spec_l11In.l0 k n s (p - q + 1) (p + 1) ((j + 1 : Nat) : Int)) (fun k => ?_) ih')
        simp only [spec_l11In.j1, ↓reduceIte]
        rw [wr (i := p - q + 1) (by omega) (by omega), wr (i := p + 1) (by omega) (by omega), e1]
      · simp only [hp, ↓reduceIte]
        refine Ev.step (fun k => by simp only [spec_l11In.l0, c, c0, hI, hp, decide_false, ↓reduceIte] <;> rfl) (Ev.step (f := fun _ => some (-1)) (fun k => ?_) (Ev.now _))
        simp only [spec_l11In.j1, c, c0, hI, ↓reduceIte]
        rfl
    · simp only [hI, ↓reduceIte]
      by_cases hO : bt s (j : Int) = 79
      · simp only [hO, ↓reduceIte]
        by_cases hq : q < p
        · simp only [hq, ↓reduceIte]
          have ih' := ih (j + 1) p (q + 1) (by omega) (by omega) (by omega) (by omega)
          rw [show p - (q + 1) = p - q - 1 by omega] at ih'
          have g : p - q > 0 := by omega
          refine Ev.step (fun k => by simp only [spec_l11In.l0, c, c0, hI, ↓reduceIte] <;> rfl) (Ev.step (f := fun k => spec_l11In.l0 k n s (p - q - 1) p ((j + 1 : Nat) : Int)) (fun k => ?_) ih')
          simp only [spec_l11In.j1, c, c0, hO, g, Bool.false_eq_true, ↓reduceIte]
          rw [wr (i := p - q - 1) (by omega) (by omega), e1]
        · simp only [hq, ↓reduceIte]
          have g : ¬ p - q > 0 := by omega
          refine Ev.step (fun k => by simp only [spec_l11In.l0, c, c0, hI, ↓reduceIte] <;> rfl) (Ev.step (f := fun _ => some (-1)) (fun k => ?_) (Ev.now _))
          simp only [spec_l11In.j1, c, c0, hO, g, Bool.false_eq_true, ↓reduceIte]
      · simp only [hO, ↓reduceIte]
        refine Ev.step (fun k => by simp only [spec_l11In.l0, c, c0, hI, ↓reduceIte] <;> rfl) (Ev.step (f := fun _ => some (-1)) (fun k => ?_) (Ev.now _))
        simp only [spec_l11In.j1, c, c0, hO, Bool.false_eq_true, ↓reduceIte]
theorem ev_isBeginning_l0 (n : Int) (s : ByteArray) (hn0 : 1 ≤ n) (hn6 : n ≤ 6) (hs : s.size ≤ 1048576) (d : Nat) : ∀ (j : Nat) (p q : Int), j + d = s.size → 0 ≤ q → q ≤ p → p ≤ n →
    Ev (fun k => impl_isBeginning.l0 k n s p q (s.size : Int) (j : Int)) (beg n ((bs s).drop j) p q).isSome := by
  induction d with
  | zero =>
    intro j p q hj h0 h1 h2
    rw [bs_end s j (by omega)]
    have c : ¬ (j : Int) < (s.size : Int) := by omega
    exact Ev.step (fun k => by simp only [impl_isBeginning.l0, c, ↓reduceIte] <;> rfl) (Ev.now _)
  | succ d ih =>
    intro j p q hj h0 h1 h2
    rw [bs_drop s j (by omega)]
    have c : (j : Int) < (s.size : Int) := by omega
    have c0 : 0 ≤ (j : Int) := by omega
    have e1 : wrap64 ((j : Int) + 1) = ((j + 1 : Nat) : Int) := wj (by omega)
    have e2 : wrap64 (p + 1) = p + 1 := wr (by omega) (by omega)
    have e3 : wrap64 (q + 1) = q + 1 := wr (by omega) (by omega)
    simp only [beg]
    by_cases hI : bt s (j : Int) = 73
    · simp only [hI, ↓reduceIte]
      have g1 : ¬ q > p + 1 := by omega
      by_cases hp : p < n
      · have g2 : ¬ p + 1 > n := by omega
        simp only [hp, ↓reduceIte]
        exact Ev.step (fun k => by simp only [impl_isBeginning.l0, c, c0, hI, e1, e2, g1, g2, ↓reduceIte]) (ih (j + 1) (p + 1) q (by omega) h0 (by omega) (by omega))
      · have g2 : p + 1 > n := by omega
        simp only [hp, ↓reduceIte]
        exact Ev.step (fun k => by simp only [impl_isBeginning.l0, c, c0, hI, e2, g1, g2, ↓reduceIte] <;> rfl) (Ev.now _)
    · simp only [hI, ↓reduceIte]
      by_cases hO : bt s (j : Int) = 79
      · simp only [hO, ↓reduceIte]
        have g2 : ¬ p > n := by omega
        by_cases hq : q < p
        · have g1 : ¬ q + 1 > p := by omega
          simp only [hq, ↓reduceIte]
          exact Ev.step (fun k => by simp only [impl_isBeginning.l0, c, c0, hI, hO, e1, e3, g1, g2, ↓reduceIte] <;> rfl) (ih (j + 1) p (q + 1) (by omega) (by omega) (by omega) (by omega))
        · have g1 : q + 1 > p := by omega
          simp only [hq, ↓reduceIte]
          exact Ev.step (fun k => by simp only [impl_isBeginning.l0, c, c0, hI, hO, e3, g1, g2, ↓reduceIte] <;> rfl) (Ev.now _)
      · simp only [hO, ↓reduceIte]
        exact Ev.step (fun k => by simp only [impl_isBeginning.l0, c, c0, hI, hO, ↓reduceIte] <;> rfl) (Ev.now _)
/-- Is a text a beginning for n numbers? -/
def isBeg (n : Int) (s : ByteArray) : Bool := decide (1 ≤ n) && decide (n ≤ 6) && decide ((s.size : Int) ≤ 2 * n) && (beg n (bs s) 0 0).isSome
theorem begR_some (n : Int) (l : List Int) (h : 0 ≤ n) : decide (begR (beg n l 0 0) ≥ 0) = (beg n l 0 0).isSome := by
  cases e : beg n l 0 0 with
  | none => rfl
  | some r =>
    obtain ⟨p, q⟩ := r
    have := beg_bounds n l 0 0 p q (by omega) h e
    show decide (p - q ≥ 0) = true
    exact decide_eq_true (by omega)
theorem ev_l11In (n : Int) (s : ByteArray) (hn0 : 1 ≤ n) (hn6 : n ≤ 6) (hs : s.size ≤ 1048576) : Ev (fun k => spec_l11In.f k n s) (if (s.size : Int) ≤ 2 * n then begR (beg n (bs s) 0 0) else -1) := by
  have e : wrap64 (2 * n) = 2 * n := wr (by omega) (by omega)
  by_cases h : (s.size : Int) ≤ 2 * n
  · have h' : ¬ (s.size : Int) > 2 * n := by omega
    have := ev_l11In_l0 n s hn0 hn6 hs s.size 0 0 0 (by omega) (by omega) (by omega) (by omega)
    simp only [List.drop_zero] at this
    simp only [spec_l11In.f, e, h, h', ↓reduceIte]
    exact this
  · have h' : (s.size : Int) > 2 * n := by omega
    simp only [spec_l11In.f, e, h, h', ↓reduceIte]
    exact Ev.now _
theorem ev_isBeginning (n : Int) (s : ByteArray) (hs : s.size ≤ 1048576) : Ev (fun k => impl_isBeginning.f k n s) (isBeg n s) := by
  unfold isBeg
  by_cases h1 : 1 ≤ n
  · by_cases h6 : n ≤ 6
    · have e : wrap64 (2 * n) = 2 * n := wr (by omega) (by omega)
      have g1 : ¬ n < 1 := by omega
      have g6 : ¬ n > 6 := by omega
      simp only [impl_isBeginning.f, g1, g6, e, h1, h6, decide_true, Bool.true_and, ↓reduceIte]
      by_cases hl : (s.size : Int) ≤ 2 * n
      · have hl' : ¬ (s.size : Int) > 2 * n := by omega
        simp only [hl, hl', decide_true, decide_false, Bool.true_and]
        have := ev_isBeginning_l0 n s h1 h6 hs s.size 0 0 0 (by omega) (by omega) (by omega) (by omega)
        simp only [List.drop_zero] at this
        exact Ev.step (fun k => by simp only [impl_isBeginning.j0, Bool.false_eq_true, ↓reduceIte] <;> rfl) this
      · have hl' : (s.size : Int) > 2 * n := by omega
        simp only [hl, hl', decide_true, decide_false, Bool.false_and]
        exact Ev.step (fun k => by simp only [impl_isBeginning.j0, ↓reduceIte] <;> rfl) (Ev.now _)
    · have g1 : ¬ n < 1 := by omega
      have g6 : n > 6 := by omega
      simp only [impl_isBeginning.f, g1, g6, h6, decide_false, Bool.and_false, Bool.false_and, ↓reduceIte]
      exact Ev.step (fun k => by simp only [impl_isBeginning.j0, ↓reduceIte] <;> rfl) (Ev.now _)
  · have g1 : n < 1 := by omega
    simp only [impl_isBeginning.f, g1, h1, decide_false, Bool.false_and, ↓reduceIte]
    exact Ev.step (fun k => by simp only [impl_isBeginning.j0, ↓reduceIte] <;> rfl) (Ev.now _)
/-! ### an order and a beginning; the stack behind it -/
def duelB (l : List Int) (s : ByteArray) : Bool := ordB l && isBeg (l.length : Int) s
theorem duelB_facts {l : List Int} {s : ByteArray} (h : duelB l s = true) : ordB l = true ∧ 1 ≤ l.length ∧ l.length ≤ 6 ∧ (s.size : Int) ≤ 2 * (l.length : Int) ∧ ∃ p q, beg (l.length : Int) (bs s) 0 0 = some (p, q) := by
  unfold duelB isBeg at h
  simp only [Bool.and_eq_true, decide_eq_true_eq] at h
  obtain ⟨h0, ⟨⟨h1, h6⟩, hl⟩, hb⟩ := h
  obtain ⟨⟨p, q⟩, hp⟩ := Option.isSome_iff_exists.1 hb
  exact ⟨h0, by omega, by omega, hl, p, q, hp⟩
theorem ev_isDuel (l : List Int) (s : ByteArray) (hs : s.size ≤ 1048576) : Ev (fun k => impl_isDuel.f k l s) (duelB l s) := by
  unfold impl_isDuel.f duelB
  refine Ev.bind (ev_isOrder l) ?_
  cases ho : ordB l with
  | false =>
    simp only [Bool.false_eq_true, ↓reduceIte, Bool.false_and]
    exact Ev.now _
  | true =>
    simp only [↓reduceIte, Bool.true_and]
    exact Ev.bind (ev_isBeginning (l.length : Int) s hs) (Ev.now _)
theorem ev_stackAfter_l0 (l : List Int) (s : ByteArray) (hn : l.length ≤ 6) (hs : s.size ≤ 1048576) (d : Nat) : ∀ (j p : Nat) (q : Int) (st : List Int) (pd : Int), j + d = s.size → p ≤ l.length → (st.length : Int) = (p : Int) - q → 0 ≤ q → (beg (l.length : Int) ((bs s).drop j) p q).isSome = true →
    Ev (fun k => impl_stackAfter.l0 k (l.drop p) s st pd (s.size : Int) (j : Int)) (stk ((bs s).drop j) (l.drop p) st pd) := by
  induction d with
  | zero =>
    intro j p q st pd hj hp hst hq hb
    rw [bs_end s j (by omega)]
    have c : ¬ (j : Int) < (s.size : Int) := by omega
    exact Ev.step (f := fun _ => some (st, pd)) (fun k => by simp only [impl_stackAfter.l0, c, ↓reduceIte]) (Ev.now _)
  | succ d ih =>
    intro j p q st pd hj hp hst hq hb
    rw [bs_drop s j (by omega)] at hb ⊢
    have c : (j : Int) < (s.size : Int) := by omega
    have c0 : 0 ≤ (j : Int) := by omega
    have e1 := Aside0.mk (show wrap64 ((j : Int) + 1) = ((j + 1 : Nat) : Int) from wj (by omega))
    simp only [beg] at hb
    simp only [stk]
    by_cases hI : bt s (j : Int) = 73
    · simp only [hI, ↓reduceIte] at hb ⊢
      by_cases hpn : (p : Int) < (l.length : Int)
      · simp only [hpn, ↓reduceIte] at hb
        have g0 : 0 < ((l.drop p).length : Int) := by rw [List.length_drop]; omega
        have g1 : 1 ≤ ((l.drop p).length : Int) := by omega
        have lim : st.length < 17592186044416 := by omega
        have ih' := ih (j + 1) (p + 1) q (st ++ [rd (l.drop p) 0]) 0 (by omega) (by omega) (by rw [List.length_append, List.length_singleton]; omega) hq hb
        rw [← List.drop_drop] at ih'
        rw [show (l.drop p).headD 0 = rd (l.drop p) 0 by unfold rd; simp [List.headD_eq_head?_getD, List.head?_drop], show (l.drop p).tail = (l.drop p).drop 1 by simp]
        refine Ev.step (fun k => ?_) ih'
        simp only [impl_stackAfter.l0, c, c0, hI, g0, g1, lim, e1.out, ↓reduceIte]
      · simp only [hpn, ↓reduceIte] at hb
        cases hb
    · simp only [hI, ↓reduceIte] at hb ⊢
      by_cases hO : bt s (j : Int) = 79
      · simp only [hO, ↓reduceIte] at hb
        by_cases hqp : q < (p : Int)
        · simp only [hqp, ↓reduceIte] at hb
          rcases snoc_cases st with rfl | ⟨st, x, rfl⟩
          · simp only [List.length_nil, Int.natCast_zero] at hst
            omega
          · have hlen : (st ++ [x]).length = st.length + 1 := by simp
            rw [hlen] at hst
            have et := Aside0.mk (show wrap64 (((st ++ [x]).length : Int) - 1) = (st.length : Int) from by rw [hlen, wr (by omega) (by omega)]; omega)
            have etop : rd (st ++ [x]) (st.length : Int) = x := by rw [rd_nat]; simp
            have t0 : 0 ≤ (st.length : Int) := by omega
            have t1 : (st.length : Int) < ((st ++ [x]).length : Int) := by rw [hlen]; omega
            have t2 : (st.length : Int) ≤ ((st ++ [x]).length : Int) := by rw [hlen]; omega
            have ih' := ih (j + 1) p (q + 1) st x (by omega) hp (by omega) (by omega) hb
            rw [show (st ++ [x]).dropLast = st by simp, show (st ++ [x]).getLastD 0 = x by simp]
            refine Ev.step (fun k => ?_) ih'
            simp only [impl_stackAfter.l0, c, c0, hI, et.out, t0, t1, t2, etop, e1.out, Int.toNat_natCast, ↓reduceIte]
            rw [show (st ++ [x]).take st.length = st by simp]
        · simp only [hqp, ↓reduceIte] at hb
          cases hb
      · simp only [hO, ↓reduceIte] at hb
        cases hb
theorem ev_stackAfter (l : List Int) (s : ByteArray) (h : duelB l s = true) (hs : s.size ≤ 1048576) : Ev (fun k => impl_stackAfter.f k l s) (stk (bs s) l [] 0) := by
  obtain ⟨h0, h1, h6, hl, p, q, hb⟩ := duelB_facts h
  have := ev_stackAfter_l0 l s h6 hs s.size 0 0 0 [] 0 (by omega) (by omega) (by simp) (by omega) (by rw [List.drop_zero]; exact Option.isSome_iff_exists.2 ⟨_, hb⟩)
  simp only [List.drop_zero] at this
  exact this
theorem ev_l11Stack_l0 (l : List Int) (s : ByteArray) (hn : l.length ≤ 6) (hs : s.size ≤ 1048576) (d : Nat) : ∀ (j p : Nat) (q : Int) (st : List Int) (pd : Int), j + d = s.size → p ≤ l.length → (st.length : Int) = (p : Int) - q → 0 ≤ q → (beg (l.length : Int) ((bs s).drop j) p q).isSome = true →
    Ev (fun k => spec_l11Stack.l0 k l s st (p : Int) (j : Int)) (stk ((bs s).drop j) (l.drop p) st pd).1 := by
  induction d with
  | zero =>
    intro j p q st pd hj hp hst hq hb
    rw [bs_end s j (by omega)]
    have c : ¬ (j : Int) < (s.size : Int) := by omega
    have lim : ([] : List Int).length + st.length < 17592186044416 := by simp; omega
    refine Ev.step (f := fun _ => some st) (fun k => ?_) (Ev.now _)
    simp only [spec_l11Stack.l0, c, ↓reduceIte, spec_l1Own.f, Option.bind_some, lim, List.nil_append]
  | succ d ih =>
    intro j p q st pd hj hp hst hq hb
    rw [bs_drop s j (by omega)] at hb ⊢
    have c : (j : Int) < (s.size : Int) := by omega
    have c0 : 0 ≤ (j : Int) := by omega
    have e1 := Aside0.mk (show wrap64 ((j : Int) + 1) = ((j + 1 : Nat) : Int) from wj (by omega))
    have e2 := Aside0.mk (show wrap64 ((p : Int) + 1) = ((p + 1 : Nat) : Int) from wj (by omega))
    simp only [beg] at hb
    simp only [stk]
    by_cases hI : bt s (j : Int) = 73
    · simp only [hI, ↓reduceIte] at hb ⊢
      by_cases hpn : (p : Int) < (l.length : Int)
      · simp only [hpn, ↓reduceIte] at hb
        have c0p : 0 ≤ (p : Int) := by omega
        have lim : st.length < 17592186044416 := by omega
        have ih' := ih (j + 1) (p + 1) q (st ++ [rd l (p : Int)]) 0 (by omega) (by omega) (by rw [List.length_append, List.length_singleton]; omega) hq hb
        rw [show (l.drop p).headD 0 = rd l (p : Int) by rw [rd_drop l p (by omega)]; rfl, show (l.drop p).tail = l.drop (p + 1) by simp]
        refine Ev.step (fun k => ?_) ih'
        simp only [spec_l11Stack.l0, c, c0, hI, c0p, hpn, lim, e1.out, e2.out, ↓reduceIte]
      · simp only [hpn, ↓reduceIte] at hb
        cases hb
    · simp only [hI, ↓reduceIte] at hb ⊢
      by_cases hO : bt s (j : Int) = 79
      · simp only [hO, ↓reduceIte] at hb
        by_cases hqp : q < (p : Int)
        · simp only [hqp, ↓reduceIte] at hb
          rcases snoc_cases st with rfl | ⟨st, x, rfl⟩
          · simp only [List.length_nil, Int.natCast_zero] at hst
            omega
          · have hlen : (st ++ [x]).length = st.length + 1 := by simp
            rw [hlen] at hst
            have et := Aside0.mk (show wrap64 (((st ++ [x]).length : Int) - 1) = (st.length : Int) from by rw [hlen, wr (by omega) (by omega)]; omega)
            have t0 : 0 ≤ (st.length : Int) := by omega
            have t2 : (st.length : Int) ≤ ((st ++ [x]).length : Int) := by rw [hlen]; omega
            have ih' := ih (j + 1) p (q + 1) st x (by omega) hp (by omega) (by omega) hb
            rw [show (st ++ [x]).dropLast = st by simp, show (st ++ [x]).getLastD 0 = x by simp]
            refine Ev.step (fun k => ?_) ih'
            simp only [spec_l11Stack.l0, c, c0, hI, et.out, t0, t2, e1.out, Int.toNat_natCast, ↓reduceIte]
            rw [show (st ++ [x]).take st.length = st by simp]
        · simp only [hqp, ↓reduceIte] at hb
          cases hb
      · simp only [hO, ↓reduceIte] at hb
        cases hb
theorem ev_l11Stack (l : List Int) (s : ByteArray) (h : duelB l s = true) (hs : s.size ≤ 1048576) : Ev (fun k => spec_l11Stack.f k l s) (stk (bs s) l [] 0).1 := by
  obtain ⟨h0, h1, h6, hl, p, q, hb⟩ := duelB_facts h
  have := ev_l11Stack_l0 l s h6 hs s.size 0 0 0 [] 0 (by omega) (by omega) (by simp) (by omega) (by rw [List.drop_zero]; exact Option.isSome_iff_exists.2 ⟨_, hb⟩)
  simp only [List.drop_zero] at this
  exact this
theorem ev_l11Good (l : List Int) (s : ByteArray) (hs : s.size ≤ 1048576) : Ev (fun k => spec_l11Good.f k l s) (duelB l s) := by
  unfold spec_l11Good.f duelB
  refine Ev.bind (ev_l2Order l) ?_
  cases ho : ordB l with
  | false =>
    simp only [Bool.false_eq_true, ↓reduceIte, Bool.false_and]
    exact Ev.now _
  | true =>
    obtain ⟨g1, g7⟩ := ordB_len ho
    simp only [↓reduceIte, Bool.true_and]
    by_cases h6 : (l.length : Int) ≤ 6
    · simp only [h6, ↓reduceIte]
      refine Ev.bind (ev_l11In (l.length : Int) s (by omega) h6 hs) ?_
      unfold isBeg
      have h1 : (1 : Int) ≤ (l.length : Int) := by omega
      by_cases hl : (s.size : Int) ≤ 2 * (l.length : Int)
      · simp only [hl, h1, h6, decide_true, Bool.true_and, ↓reduceIte]
        rw [begR_some _ _ (by omega)]
        exact Ev.now _
      · simp only [hl, h1, h6, decide_true, decide_false, Bool.true_and, Bool.false_and, ↓reduceIte]
        exact Ev.now _
    · simp only [h6, ↓reduceIte]
      unfold isBeg
      simp only [h6, decide_false, Bool.and_false, Bool.false_and]
      exact Ev.now _
/-! ### more of the stack behind a beginning -/
theorem stk_snoc : ∀ (a rest st : List Int) (pd c : Int), (stk (a ++ [c]) rest st pd).2 = if c = 73 then 0 else (stk a rest st pd).1.getLastD 0
  | [], rest, st, pd, c => by simp only [stk, List.nil_append]; split <;> rfl
  | d :: t, rest, st, pd, c => by
    simp only [stk, List.cons_append]
    split
    · exact stk_snoc t _ _ _ c
    · exact stk_snoc t _ _ _ c
theorem stk_high (n : Int) : ∀ (a rest st : List Int) (pd p q p' q' : Int), beg n a p q = some (p', q') → (st.length : Int) = p - q → ((stk a rest st pd).1.length : Int) = p' - q'
  | [], rest, st, pd, p, q, p', q', h, hl => by
    simp only [beg, Option.some.injEq, Prod.mk.injEq] at h
    obtain ⟨rfl, rfl⟩ := h
    exact hl
  | c :: t, rest, st, pd, p, q, p', q', h, hl => by
    simp only [beg] at h
    simp only [stk]
    by_cases h73 : c = 73
    · simp only [h73, ↓reduceIte] at h ⊢
      by_cases hp : p < n
      · simp only [hp, ↓reduceIte] at h
        exact stk_high n t _ _ _ _ _ _ _ h (by rw [List.length_append, List.length_singleton]; omega)
      · simp only [hp, ↓reduceIte] at h
        cases h
    · simp only [h73, ↓reduceIte] at h ⊢
      by_cases h79 : c = 79
      · simp only [h79, ↓reduceIte] at h
        by_cases hq : q < p
        · simp only [hq, ↓reduceIte] at h
          exact stk_high n t _ _ _ _ _ _ _ h (by rw [List.length_dropLast]; omega)
        · simp only [hq, ↓reduceIte] at h
          cases h
      · simp only [h79, ↓reduceIte] at h
        cases h
theorem stk_bound : ∀ (a rest st : List Int) (pd : Int), (∀ x ∈ rest, 0 ≤ x ∧ x ≤ 7) → (∀ x ∈ st, 0 ≤ x ∧ x ≤ 7) → ∀ x ∈ (stk a rest st pd).1, 0 ≤ x ∧ x ≤ 7
  | [], rest, st, pd, _, h => h
  | c :: t, rest, st, pd, hr, hs => by
    simp only [stk]
    split
    · refine stk_bound t _ _ _ (fun x hx => hr x (List.mem_of_mem_tail hx)) ?_
      intro x hx
      rcases List.mem_append.1 hx with hx | hx
      · exact hs x hx
      · rw [List.mem_singleton] at hx
        subst hx
        cases rest with
        | nil => exact ⟨by decide, by decide⟩
        | cons y ys => exact hr y List.mem_cons_self
    · exact stk_bound t _ _ _ hr (fun x hx => hs x ((List.dropLast_sublist st).subset hx))
theorem last_bound {t : List Int} (h : ∀ x ∈ t, 0 ≤ x ∧ x ≤ 7) : 0 ≤ t.getLastD 0 ∧ t.getLastD 0 ≤ 7 := by
  rcases snoc_cases t with rfl | ⟨m, x, rfl⟩
  · exact ⟨by decide, by decide⟩
  · have := h x (by simp)
    rw [show (m ++ [x]).getLastD 0 = x by simp]
    exact this
/-! ### the signs with which a beginning goes on -/
theorem isBeg_snoc (n : Int) (s t : ByteArray) (c : Int) (ht : bs t = [c]) (p q : Int) (h : isBeg n s = true) (hb : beg n (bs s) 0 0 = some (p, q)) : isBeg n (s ++ t) = (if c = 73 then decide (p < n) else if c = 79 then decide (q < p) else false) := by
  unfold isBeg at h ⊢
  simp only [Bool.and_eq_true, decide_eq_true_eq] at h
  obtain ⟨⟨⟨h1, h6⟩, hl⟩, _⟩ := h
  have b := beg_bounds n (bs s) 0 0 p q (by omega) (by omega) hb
  rw [bs_length] at b
  have ht1 : t.size = 1 := by rw [← bs_length, ht]; rfl
  rw [bs_append, beg_append, hb, ht, size_append, ht1]
  simp only [Option.bind_some, beg]
  by_cases h73 : c = 73
  · simp only [h73, ↓reduceIte]
    by_cases hp : p < n
    · simp [hp, h1, h6]
      omega
    · simp [hp]
  · simp only [h73, ↓reduceIte]
    by_cases h79 : c = 79
    · simp only [h79, ↓reduceIte]
      by_cases hp : q < p
      · simp [hp, h1, h6]
        omega
      · simp [hp]
    · simp [h79]
/-- The signs with which a beginning with p pushes and q pops goes on. -/
def signs (n p q : Int) : ByteArray := (if p < n then (⟨#[73]⟩ : ByteArray) else ⟨#[]⟩) ++ (if q < p then (⟨#[79]⟩ : ByteArray) else ⟨#[]⟩)
theorem ev_nextSigns (n : Int) (s : ByteArray) (hs : s.size ≤ 1048576) (p q : Int) (h : isBeg n s = true) (hb : beg n (bs s) 0 0 = some (p, q)) : Ev (fun k => impl_nextSigns.f k n s) (signs n p q) := by
  have hI := isBeg_snoc n s ⟨#[73]⟩ 73 rfl p q h hb
  have hO := isBeg_snoc n s ⟨#[79]⟩ 79 rfl p q h hb
  have hl : (s.size : Int) ≤ 12 := by
    unfold isBeg at h
    simp only [Bool.and_eq_true, decide_eq_true_eq] at h
    omega
  simp only [↓reduceIte] at hI
  rw [if_neg (by decide), if_pos rfl] at hO
  simp only [impl_nextSigns.f, Option.bind_some]
  have z0 : rdOf ByteArray.empty ([(⟨#[73]⟩ : ByteArray), (⟨#[79]⟩ : ByteArray)] : List ByteArray) 0 = ⟨#[73]⟩ := rfl
  have z1 : rdOf ByteArray.empty ([(⟨#[73]⟩ : ByteArray), (⟨#[79]⟩ : ByteArray)] : List ByteArray) 1 = ⟨#[79]⟩ := rfl
  have s73 : (⟨#[73]⟩ : ByteArray).size = 1 := rfl
  have s79 : (⟨#[79]⟩ : ByteArray).size = 1 := rfl
  have k1 : s.size + 1 ≤ 9223372036854775807 := by omega
  have nn : (([(⟨#[73]⟩ : ByteArray), (⟨#[79]⟩ : ByteArray)] : List ByteArray).length : Int) = 2 := rfl
  have w1 : wrap64 (0 + 1) = 1 := by unfold wrap64; omega
  have w2 : wrap64 (1 + 1) = 2 := by unfold wrap64; omega
  have e0 : (⟨#[]⟩ : ByteArray).size = 0 := rfl
  have last : ∀ out : ByteArray, Ev (fun k => impl_nextSigns.l0 k n s out [(⟨#[73]⟩ : ByteArray), (⟨#[79]⟩ : ByteArray)] 2 2) out := fun out => Ev.step (fun k => by simp only [impl_nextSigns.l0]; rfl) (Ev.now _)
  have second : ∀ out : ByteArray, out.size ≤ 1 → Ev (fun k => impl_nextSigns.l0 k n s out [(⟨#[73]⟩ : ByteArray), (⟨#[79]⟩ : ByteArray)] 2 1) (out ++ (if q < p then (⟨#[79]⟩ : ByteArray) else ⟨#[]⟩)) := by
    intro out ho
    have k2 : out.size + 1 ≤ 9223372036854775807 := by omega
    refine Ev.step (f := fun k => (impl_isBeginning.f k n (s ++ ⟨#[79]⟩)).bind fun t => if t = true then impl_nextSigns.l0 k n s (out ++ ⟨#[79]⟩) [(⟨#[73]⟩ : ByteArray), (⟨#[79]⟩ : ByteArray)] 2 2 else impl_nextSigns.l0 k n s out [(⟨#[73]⟩ : ByteArray), (⟨#[79]⟩ : ByteArray)] 2 2) (fun k => ?_) ?_
    · simp only [impl_nextSigns.l0, nn, z1, s79, k1, k2, w2, ↓reduceIte, show ((1 : Int) < 2) = True by decide, show ((0 : Int) ≤ 1) = True by decide]
    · refine Ev.bind (ev_isBeginning n (s ++ ⟨#[79]⟩) (by rw [size_append]; omega)) ?_
      rw [hO]
      by_cases hq : q < p
      · simp only [hq, decide_true, ↓reduceIte]
        exact last _
      · simp only [hq, decide_false, Bool.false_eq_true, ↓reduceIte]
        have : out ++ (⟨#[]⟩ : ByteArray) = out := bs_inj (by rw [bs_append]; simp [bs])
        rw [this]
        exact last _
  refine Ev.step (f := fun k => (impl_isBeginning.f k n (s ++ ⟨#[73]⟩)).bind fun t => if t = true then impl_nextSigns.l0 k n s (⟨#[]⟩ ++ ⟨#[73]⟩) [(⟨#[73]⟩ : ByteArray), (⟨#[79]⟩ : ByteArray)] 2 1 else impl_nextSigns.l0 k n s ⟨#[]⟩ [(⟨#[73]⟩ : ByteArray), (⟨#[79]⟩ : ByteArray)] 2 1) (fun k => ?_) ?_
  · simp only [impl_nextSigns.l0, nn, z0, s73, e0, k1, w1, ↓reduceIte, show ((0 : Int) < 2) = True by decide, show ((0 : Int) ≤ 0) = True by decide, show (0 + 1 ≤ 9223372036854775807) = True by decide]
  · refine Ev.bind (ev_isBeginning n (s ++ ⟨#[73]⟩) (by rw [size_append]; omega)) ?_
    rw [hI]
    unfold signs
    by_cases hp : p < n
    · simp only [hp, decide_true, ↓reduceIte]
      exact second _ (by decide)
    · simp only [hp, decide_false, Bool.false_eq_true, ↓reduceIte]
      exact second _ (by decide)
theorem ev_l11Signs (n : Int) (s : ByteArray) (hs : s.size ≤ 1048576) (p q : Int) (h : isBeg n s = true) (hb : beg n (bs s) 0 0 = some (p, q)) : Ev (fun k => spec_l11Signs.f k n s) (signs n p q) := by
  unfold isBeg at h
  simp only [Bool.and_eq_true, decide_eq_true_eq] at h
  obtain ⟨⟨⟨h1, h6⟩, hl⟩, _⟩ := h
  have b := beg_bounds n (bs s) 0 0 p q (by omega) (by omega) hb
  rw [bs_length] at b
  have r := ev_l11In n s h1 h6 hs
  rw [if_pos hl, hb] at r
  simp only [begR] at r
  unfold spec_l11Signs.f signs
  refine Ev.bind r ?_
  have e : wrap64 (Int.tdiv (wrap64 ((s.size : Int) + (p - q))) 2) = p := by
    rw [wr (i := (s.size : Int) + (p - q)) (by omega) (by omega), show (s.size : Int) + (p - q) = 2 * p by omega, Int.mul_tdiv_cancel_left _ (by decide)]
    exact wr (by omega) (by omega)
  simp only [e]
  have g : (p - q > 0) = (q < p) := by simp only [gt_iff_lt, eq_iff_iff]; omega
  simp only [g]
  by_cases hp : p < n <;> by_cases hq : q < p <;> simp only [hp, hq, ↓reduceIte, show (1 + 1 ≤ 9223372036854775807) = True by decide, show (0 + 1 ≤ 9223372036854775807) = True by decide]
  all_goals first | exact Ev.now _ | exact (bs_inj (by rw [bs_append]; rfl) : (⟨#[73]⟩ : ByteArray) = ⟨#[73]⟩ ++ ⟨#[]⟩) ▸ Ev.now _
/-! ### the value of a beginning -/
def sl (n p q : Int) : List Int := (if p < n then [73] else []) ++ (if q < p then [79] else [])
theorem signs_bs (n p q : Int) : bs (signs n p q) = sl n p q := by
  unfold signs sl
  rw [bs_append]
  split <;> split <;> rfl
theorem signs_cut (n p q : Int) (j : Nat) (hj : j < (sl n p q).length) : (signs n p q).extract j (j + 1) = sg ((sl n p q)[j]'hj) := by
  revert hj
  unfold signs sl
  by_cases h1 : p < n <;> by_cases h2 : q < p <;> simp only [h1, h2, ↓reduceIte] <;> intro hj
  · match j, hj with
    | 0, _ => rfl
    | 1, _ => rfl
  · match j, hj with
    | 0, _ => rfl
  · match j, hj with
    | 0, _ => rfl
  · exact absurd hj (by simp)
theorem sl_mem {n p q c : Int} (h : c ∈ sl n p q) : (c = 73 ∧ p < n) ∨ (c = 79 ∧ q < p) := by
  unfold sl at h
  by_cases h1 : p < n <;> by_cases h2 : q < p <;> simp [h1, h2] at h ⊢ <;> exact h
theorem sl_len (n p q : Int) : (sl n p q).length ≤ 2 := by
  unfold sl
  split <;> split <;> decide
def slO (l : List Int) (s : ByteArray) : List Int := match beg (l.length : Int) (bs s) 0 0 with | some r => sl (l.length : Int) r.1 r.2 | none => []
def gv (l : List Int) (V : ByteArray → Int) (s : ByteArray) (c : Int) : Int := wrap64 ((if c = 79 then (stk (bs s) l [] 0).1.getLastD 0 else 0) - V (s ++ sg c))
def lp (G : Int → Int) : List Int → Bool → Int → Int
  | [], _, best => best
  | c :: t, first, best => lp G t false (if first = true ∨ G c > best then G c else best)
def vl (l : List Int) : Nat → ByteArray → Int
  | 0, _ => 0
  | m + 1, s => lp (gv l (vl l m) s) (slO l s) true 0
theorem sg_bs {c : Int} (h : c = 73 ∨ c = 79) : bs (sg c) = [c] := by rcases h with rfl | rfl <;> rfl
theorem sg_size (c : Int) : (sg c).size = 1 := by unfold sg; split <;> rfl
theorem duel_step {l : List Int} {s : ByteArray} {p q c : Int} (h : duelB l s = true) (hb : beg (l.length : Int) (bs s) 0 0 = some (p, q)) (hc : c ∈ sl (l.length : Int) p q) : duelB l (s ++ sg c) = true := by
  have hh := h
  unfold duelB at hh ⊢
  simp only [Bool.and_eq_true] at hh ⊢
  refine ⟨hh.1, ?_⟩
  rcases sl_mem hc with ⟨rfl, hp⟩ | ⟨rfl, hq⟩
  · rw [isBeg_snoc (l.length : Int) s (sg 73) 73 rfl p q hh.2 hb, if_pos rfl]
    exact decide_eq_true hp
  · rw [isBeg_snoc (l.length : Int) s (sg 79) 79 rfl p q hh.2 hb, if_neg (by decide), if_pos rfl]
    exact decide_eq_true hq
theorem isBeg_of {l : List Int} {s : ByteArray} (h : duelB l s = true) : isBeg (l.length : Int) s = true := by
  unfold duelB at h
  simp only [Bool.and_eq_true] at h
  exact h.2
theorem ev_dlp (G : Nat → Int → Option Int) (H : Int → Int) : ∀ (L : List Int) (f : Bool) (b : Int), (∀ c ∈ L, Ev (fun k => G k c) (H c)) → Ev (fun k => dlp (G k) L f b) (lp H L f b)
  | [], f, b, _ => Ev.now _
  | c :: t, f, b, h => by
    simp only [dlp, lp]
    exact Ev.bind (h c (List.mem_cons_self)) (ev_dlp G H t _ _ fun x hx => h x (List.mem_cons_of_mem _ hx))
theorem ev_slp (G : Nat → ByteArray → Option Int) (H : Int → Int) (sgn : ByteArray) (L : List Int) (h : ∀ j (hj : j < L.length), Ev (fun k => G k (sgn.extract j (j + 1))) (H (L[j]'hj))) : ∀ (d i : Nat) (b : Int), i + d = L.length → Ev (fun k => slp (G k) sgn d i b) (lp H (L.drop i) (decide (i = 0)) b)
  | 0, i, b, hi => by
    rw [List.drop_of_length_le (by omega)]
    exact Ev.now _
  | d + 1, i, b, hi => by
    rw [List.drop_eq_getElem_cons (by omega)]
    simp only [slp, lp]
    refine Ev.bind (h i (by omega)) ?_
    have := ev_slp G H sgn L h d (i + 1) (if i = 0 ∨ H (L[i]'(by omega)) > b then H (L[i]'(by omega)) else b) (by omega)
    simp only [decide_eq_true_eq]
    exact this
theorem ev_dval (l : List Int) : ∀ (m : Nat) (s : ByteArray), duelB l s = true → 2 * l.length < m + s.size → Ev (fun k => dval k l m s) (vl l m s)
  | 0, s, h, hm => by
    obtain ⟨_, _, _, hl, _⟩ := duelB_facts h
    omega
  | m + 1, s, h, hm => by
    obtain ⟨h0, h1, h6, hl, p, q, hb⟩ := duelB_facts h
    simp only [dval, vl]
    refine Ev.bind (ev_nextSigns (l.length : Int) s (by omega) p q (isBeg_of h) hb) ?_
    have hsz : (signs (l.length : Int) p q).size ≤ 2 := by rw [← bs_length, signs_bs]; exact sl_len _ _ _
    rw [show slO l s = sl (l.length : Int) p q by unfold slO; rw [hb]]
    simp only [show ((signs (l.length : Int) p q).size ≤ 2 ∧ s.size ≤ 1000) = True from eq_true ⟨hsz, by omega⟩, ↓reduceIte]
    rw [show bytesOf (signs (l.length : Int) p q) = sl (l.length : Int) p q from signs_bs _ _ _]
    refine ev_dlp (fun k => dgain k l (dval k l m) s) _ _ _ _ fun c hc => ?_
    have hd := duel_step h hb hc
    have hc2 : c = 73 ∨ c = 79 := by rcases sl_mem hc with ⟨e, _⟩ | ⟨e, _⟩; exact .inl e; exact .inr e
    have hs1 : (s ++ sg c).size = s.size + 1 := by rw [size_append, sg_size]
    simp only [dgain, show ((c = 73 ∨ c = 79) ∧ s.size ≤ 1000) = True from eq_true ⟨hc2, by omega⟩, ↓reduceIte]
    refine Ev.bind (ev_stackAfter l (s ++ sg c) hd (by omega)) ?_
    refine Ev.bind (ev_dval l m (s ++ sg c) hd (by omega)) ?_
    have e : (stk (bs (s ++ sg c)) l [] 0).2 = if c = 79 then (stk (bs s) l [] 0).1.getLastD 0 else 0 := by
      rw [bs_append, sg_bs hc2, stk_snoc]
      rcases hc2 with rfl | rfl <;> rfl
    rw [e]
    exact Ev.now _
theorem ev_sby (l : List Int) (V : Nat → ByteArray → Option Int) (W : ByteArray → Int) (s : ByteArray) (h : duelB l s = true) (p q : Int) (hb : beg (l.length : Int) (bs s) 0 0 = some (p, q)) (c : Int) (hc : c ∈ sl (l.length : Int) p q) (hV : Ev (fun k => V k (s ++ sg c)) (W (s ++ sg c))) : Ev (fun k => sby k l (V k) s (sg c)) (gv l W s c) := by
  obtain ⟨h0, h1, h6, hl, _⟩ := duelB_facts h
  have hc2 := sl_mem hc
  simp only [sby, show (s.size + (sg c).size ≤ 1000000) = True from eq_true (by rw [sg_size]; omega), ↓reduceIte]
  have hg : Ev (fun k => if (sg c).toList = ([79] : List UInt8) then (spec_l11Stack.f k l s).bind fun t => if 0 < t.length ∧ t.length ≤ 1000000 then some (rd t ((t.length : Int) - 1)) else none else some 0) (if c = 79 then (stk (bs s) l [] 0).1.getLastD 0 else 0) := by
    rcases hc2 with ⟨rfl, hp⟩ | ⟨rfl, hq⟩
    · have e : ¬ (sg 73).toList = ([79] : List UInt8) := by decide +kernel
      simp only [e, ↓reduceIte, show ¬ ((73 : Int) = 79) by decide]
      exact Ev.now _
    · have e : (sg 79).toList = ([79] : List UInt8) := by decide +kernel
      simp only [e, ↓reduceIte]
      refine Ev.bind (ev_l11Stack l s h (by omega)) ?_
      have hh := stk_high (l.length : Int) (bs s) l [] 0 0 0 p q hb (by simp)
      have b := beg_bounds (l.length : Int) (bs s) 0 0 p q (by omega) (by omega) hb
      rw [bs_length] at b
      generalize (stk (bs s) l [] 0).1 = t at hh ⊢
      simp only [show (0 < t.length ∧ t.length ≤ 1000000) = True from eq_true ⟨by omega, by omega⟩, ↓reduceIte]
      rw [show rd t ((t.length : Int) - 1) = t.getLastD 0 by
        rcases snoc_cases t with rfl | ⟨m, x, rfl⟩
        · simp at hh; omega
        · rw [show (((m ++ [x]).length : Int) - 1) = (m.length : Int) by simp, rd_nat]; simp]
      exact Ev.now _
  exact Ev.bind hg (Ev.bind hV (Ev.now _))
theorem ev_sval (l : List Int) : ∀ (m : Nat) (s : ByteArray), duelB l s = true → 2 * l.length < m + s.size → Ev (fun k => sval k l m s) (vl l m s)
  | 0, s, h, hm => by
    obtain ⟨_, _, _, hl, _⟩ := duelB_facts h
    omega
  | m + 1, s, h, hm => by
    obtain ⟨h0, h1, h6, hl, p, q, hb⟩ := duelB_facts h
    simp only [sval, vl]
    refine Ev.bind (ev_l11Signs (l.length : Int) s (by omega) p q (isBeg_of h) hb) ?_
    have hlen : (sl (l.length : Int) p q).length = (signs (l.length : Int) p q).size := by rw [← bs_length, signs_bs]
    have hsz : (signs (l.length : Int) p q).size ≤ 4 := by have := sl_len (l.length : Int) p q; omega
    rw [show slO l s = sl (l.length : Int) p q by unfold slO; rw [hb]]
    simp only [hsz, ↓reduceIte]
    refine ev_slp (fun k => sby k l (sval k l m) s) (gv l (vl l m) s) (signs (l.length : Int) p q) (sl (l.length : Int) p q) (fun j hj => ?_) _ 0 0 (by omega)
    rw [signs_cut (l.length : Int) p q j hj]
    have hc : (sl (l.length : Int) p q)[j]'hj ∈ sl (l.length : Int) p q := List.getElem_mem hj
    have hd := duel_step h hb hc
    exact ev_sby l (fun k => sval k l m) (vl l m) s h p q hb _ hc (ev_sval l m _ hd (by rw [size_append, sg_size]; omega))
theorem ev_l11Value (l : List Int) (s : ByteArray) (h : duelB l s = true) : Ev (fun k => spec_l11Value.f k l s) (vl l 14 s) := by
  obtain ⟨_, _, h6, _⟩ := duelB_facts h
  obtain ⟨K, hK⟩ := ev_sval l 14 s h (by omega)
  refine ⟨K + 14, fun k hk => ?_⟩
  exact at_rounds (g := fun m => sval k l m s) (fun m => sval_more k l m s) (by omega : 14 ≤ k) (hK k (by omega))
theorem ev_specDuelValue (l : List Int) (s : ByteArray) (hs : s.size ≤ 1048576) : Ev (fun k => spec_DuelValue.f k l s) (if duelB l s = true then (vl l 14 s, true) else (0, false)) := by
  unfold spec_DuelValue.f
  refine Ev.bind (ev_l11Good l s hs) ?_
  by_cases h : duelB l s = true
  · simp only [h, ↓reduceIte]
    exact Ev.bind (ev_l11Value l s h) (Ev.now _)
  · simp only [h, Bool.false_eq_true, ↓reduceIte]
    exact Ev.now _
theorem ev_DuelValue (l : List Int) (s : ByteArray) (hs : s.size ≤ 1048576) : Ev (fun k => impl_DuelValue.f k l s) (if duelB l s = true then (vl l 14 s, true) else (0, false)) := by
  unfold impl_DuelValue.f
  refine Ev.bind (ev_isDuel l s hs) ?_
  by_cases h : duelB l s = true
  · obtain ⟨_, _, h6, _⟩ := duelB_facts h
    simp only [h, ↓reduceIte]
    exact Ev.bind (ev_dval l 14 s h (by omega)) (Ev.now _)
  · simp only [h, Bool.false_eq_true, ↓reduceIte]
    exact Ev.now _
/-! ### the best signs -/
def bstL (G : Int → Int) (v : Int) : List Int → ByteArray → ByteArray
  | [], o => o
  | c :: t, o => bstL G v t (if G c = v then o ++ sg c else o)
def bestB (l : List Int) (s : ByteArray) : ByteArray := bstL (gv l (vl l 14) s) (vl l 14 s) (slO l s) ⟨#[]⟩
theorem slO_eq {l : List Int} {s : ByteArray} {p q : Int} (hb : beg (l.length : Int) (bs s) 0 0 = some (p, q)) : slO l s = sl (l.length : Int) p q := by unfold slO; rw [hb]
theorem bstL_size (G : Int → Int) (v : Int) : ∀ L o, (bstL G v L o).size ≤ o.size + L.length
  | [], o => Nat.le_refl _
  | c :: t, o => by
    simp only [bstL]
    have := bstL_size G v t (if G c = v then o ++ sg c else o)
    split at this
    · rename_i h
      rw [size_append, sg_size] at this
      simp only [h, ↓reduceIte, List.length_cons]
      omega
    · rename_i h
      simp only [h, ↓reduceIte, List.length_cons]
      omega
theorem bestB_size (l : List Int) (s : ByteArray) : (bestB l s).size ≤ 2 := by
  have h := bstL_size (gv l (vl l 14) s) (vl l 14 s) (slO l s) ⟨#[]⟩
  have h2 : (slO l s).length ≤ 2 := by
    unfold slO
    split
    · exact sl_len _ _ _
    · exact Nat.zero_le _
  have h3 : (⟨#[]⟩ : ByteArray).size = 0 := rfl
  unfold bestB
  omega
theorem ev_by (l : List Int) (s : ByteArray) (h : duelB l s = true) (p q : Int) (hb : beg (l.length : Int) (bs s) 0 0 = some (p, q)) (c : Int) (hc : c ∈ sl (l.length : Int) p q) : Ev (fun k => spec_l11By.f k l s (sg c)) (gv l (vl l 14) s c) :=
  ev_sby l (fun k => sval k l k) (vl l 14) s h p q hb c hc (ev_l11Value l _ (duel_step h hb hc))
theorem ev_gain (l : List Int) (s : ByteArray) (h : duelB l s = true) (p q : Int) (hb : beg (l.length : Int) (bs s) 0 0 = some (p, q)) (c : Int) (hc : c ∈ sl (l.length : Int) p q) : Ev (fun k => dgain k l (dval k l 14) s c) (gv l (vl l 14) s c) := by
  obtain ⟨h0, h1, h6, hl, _⟩ := duelB_facts h
  have hd := duel_step h hb hc
  have hc2 : c = 73 ∨ c = 79 := by rcases sl_mem hc with ⟨e, _⟩ | ⟨e, _⟩; exact .inl e; exact .inr e
  have hs1 : (s ++ sg c).size = s.size + 1 := by rw [size_append, sg_size]
  simp only [dgain, show ((c = 73 ∨ c = 79) ∧ s.size ≤ 1000) = True from eq_true ⟨hc2, by omega⟩, ↓reduceIte]
  refine Ev.bind (ev_stackAfter l (s ++ sg c) hd (by omega)) ?_
  refine Ev.bind (ev_dval l 14 (s ++ sg c) hd (by omega)) ?_
  have e : (stk (bs (s ++ sg c)) l [] 0).2 = if c = 79 then (stk (bs s) l [] 0).1.getLastD 0 else 0 := by
    rw [bs_append, sg_bs hc2, stk_snoc]
    rcases hc2 with rfl | rfl <;> rfl
  rw [e]
  exact Ev.now _
theorem signs_length (n p q : Int) : (signs n p q).size = (sl n p q).length := by rw [← bs_length, signs_bs]
theorem ev_best_l0 (l : List Int) (s : ByteArray) (H : Int → Int) (v : Int) (n p q : Int) (hH : ∀ c ∈ sl n p q, Ev (fun k => spec_l11By.f k l s (sg c)) (H c)) : ∀ (d j : Nat) (out : ByteArray), j + d = (sl n p q).length → out.size + d ≤ 1000 → Ev (fun k => spec_l11Best.l0 k l s out v (signs n p q) (j : Int)) (bstL H v ((sl n p q).drop j) out)
  | 0, j, out, hj, ho => by
    rw [List.drop_of_length_le (by omega)]
    have c : ¬ (j : Int) < ((signs n p q).size : Int) := by rw [signs_length]; omega
    exact Ev.step (fun k => by simp only [spec_l11Best.l0, c, ↓reduceIte] <;> rfl) (Ev.now _)
  | d + 1, j, out, hj, ho => by
    have hl2 := sl_len n p q
    have c : (j : Int) < ((signs n p q).size : Int) := by rw [signs_length]; omega
    have c0 : 0 ≤ (j : Int) := by omega
    have e1 : wrap64 ((j : Int) + 1) = ((j + 1 : Nat) : Int) := wj (by omega)
    have c1 : (j : Int) ≤ ((j + 1 : Nat) : Int) := by omega
    have c2 : ((j + 1 : Nat) : Int) ≤ ((signs n p q).size : Int) := by rw [signs_length]; omega
    have hj' : j < (sl n p q).length := by omega
    have e2 := signs_cut n p q j hj'
    rw [List.drop_eq_getElem_cons hj']
    have hs := sg_size ((sl n p q)[j]'hj')
    have lim : out.size + 1 ≤ 9223372036854775807 := by omega
    refine Ev.step (f := fun k => (spec_l11By.f k l s (sg ((sl n p q)[j]'hj'))).bind fun t => if t = v then spec_l11Best.l0 k l s (out ++ sg ((sl n p q)[j]'hj')) v (signs n p q) ((j + 1 : Nat) : Int) else spec_l11Best.l0 k l s out v (signs n p q) ((j + 1 : Nat) : Int)) (fun k => ?_) ?_
    · simp only [spec_l11Best.l0, c, c0, e1, c1, c2, Int.toNat_natCast, e2, hs, lim, ↓reduceIte]
    · refine Ev.bind (hH _ (List.getElem_mem hj')) ?_
      simp only [bstL]
      by_cases hv : H ((sl n p q)[j]'hj') = v
      · simp only [hv, ↓reduceIte]
        exact ev_best_l0 l s H v n p q hH d (j + 1) _ (by omega) (by rw [size_append, hs]; omega)
      · simp only [hv, ↓reduceIte]
        exact ev_best_l0 l s H v n p q hH d (j + 1) _ (by omega) (by omega)
theorem ev_l11Best (l : List Int) (s : ByteArray) (h : duelB l s = true) : Ev (fun k => spec_l11Best.f k l s) (bestB l s) := by
  obtain ⟨h0, h1, h6, hl, p, q, hb⟩ := duelB_facts h
  unfold spec_l11Best.f bestB
  refine Ev.bind (ev_l11Value l s h) ?_
  refine Ev.bind (ev_l11Signs (l.length : Int) s (by omega) p q (isBeg_of h) hb) ?_
  rw [slO_eq hb]
  have hl2 := sl_len (l.length : Int) p q
  exact ev_best_l0 l s (gv l (vl l 14) s) (vl l 14 s) (l.length : Int) p q (fun c hc => ev_by l s h p q hb c hc) (sl (l.length : Int) p q).length 0 ⟨#[]⟩ (by omega) (by show 0 + _ ≤ _; omega)
theorem ev_blp (G : Nat → Int → Option Int) (H : Int → Int) (V : Nat → Option Int) (v : Int) (hV : Ev V v) : ∀ (L : List Int) (out : ByteArray), out.size + L.length ≤ 1000 → (∀ c ∈ L, Ev (fun k => G k c) (H c)) → Ev (fun k => blp (G k) (V k) L out) (bstL H v L out)
  | [], out, _, _ => Ev.now _
  | c :: t, out, ho, h => by
    rw [List.length_cons] at ho
    simp only [blp, bstL, show (out.size ≤ 1000) = True from eq_true (by omega), ↓reduceIte]
    refine Ev.bind (h c (List.mem_cons_self)) (Ev.bind hV ?_)
    refine ev_blp G H V v hV t _ ?_ fun x hx => h x (List.mem_cons_of_mem _ hx)
    split
    · rw [size_append, sg_size]; omega
    · omega
theorem ev_dbest (l : List Int) (s : ByteArray) (h : duelB l s = true) : Ev (fun k => dbest k l s) (bestB l s) := by
  obtain ⟨h0, h1, h6, hl, p, q, hb⟩ := duelB_facts h
  unfold dbest bestB
  refine Ev.bind (ev_nextSigns (l.length : Int) s (by omega) p q (isBeg_of h) hb) ?_
  have hl2 := sl_len (l.length : Int) p q
  simp only [show ((signs (l.length : Int) p q).size ≤ 2 ∧ s.size ≤ 1000) = True from eq_true ⟨by rw [signs_length]; exact hl2, by omega⟩, ↓reduceIte]
  rw [show bytesOf (signs (l.length : Int) p q) = sl (l.length : Int) p q from signs_bs _ _ _, slO_eq hb]
  exact ev_blp (fun k => dgain k l (dval k l 14) s) _ (fun k => dval k l 14 s) _ (ev_dval l 14 s h (by omega)) _ _ (by show 0 + _ ≤ _; omega) fun c hc => ev_gain l s h p q hb c hc
theorem ev_specBest (l : List Int) (s : ByteArray) (hs : s.size ≤ 1048576) : Ev (fun k => spec_BestSigns.f k l s) (if duelB l s = true then (bestB l s, true) else (⟨#[]⟩, false)) := by
    unfold spec_BestSigns.f
    refine Ev.bind (ev_l11Good l s hs) ?_
    by_cases h : duelB l s = true
    · simp only [h, ↓reduceIte]
      exact Ev.bind (ev_l11Best l s h) (Ev.now _)
    · simp only [h, Bool.false_eq_true, ↓reduceIte]
      exact Ev.now _
theorem ev_implBest (l : List Int) (s : ByteArray) (hs : s.size ≤ 1048576) : Ev (fun k => impl_BestSigns.f k l s) (if duelB l s = true then (bestB l s, true) else (⟨#[]⟩, false)) := by
    unfold impl_BestSigns.f
    refine Ev.bind (ev_isDuel l s hs) ?_
    by_cases h : duelB l s = true
    · simp only [h, ↓reduceIte]
      exact Ev.bind (ev_dbest l s h) (Ev.now _)
    · simp only [h, Bool.false_eq_true, ↓reduceIte]
      exact Ev.now _
/-! ### bounds; the value is the greatest gain -/
theorem gv_bound {l : List Int} (h : ordB l = true) (V : ByteArray → Int) (B : Int) (hB : B ≤ 1000) (s : ByteArray) (c : Int) (hV : ∀ s, -B ≤ V s ∧ V s ≤ B) : -(B + 7) ≤ gv l V s c ∧ gv l V s c ≤ B + 7 := by
  have hx : 0 ≤ (if c = 79 then (stk (bs s) l [] 0).1.getLastD 0 else 0) ∧ (if c = 79 then (stk (bs s) l [] 0).1.getLastD 0 else 0) ≤ 7 := by
    split
    · refine last_bound (stk_bound _ _ _ _ (fun x hx => ?_) (fun x hx => absurd hx (by simp)))
      have h7 := (ordB_len h).2
      have := ordB_range h x hx
      omega
    · exact ⟨by decide, by decide⟩
  have hv := hV (s ++ sg c)
  unfold gv
  rw [wr (by omega) (by omega)]
  omega
theorem lp_bound (G : Int → Int) (B : Int) (hG : ∀ c, -B ≤ G c ∧ G c ≤ B) : ∀ (L : List Int) (f : Bool) (b : Int), -B ≤ b ∧ b ≤ B → -B ≤ lp G L f b ∧ lp G L f b ≤ B
  | [], f, b, h => h
  | c :: t, f, b, h => by
    simp only [lp]
    refine lp_bound G B hG t _ _ ?_
    split
    · exact hG c
    · exact h
theorem vl_bound {l : List Int} (h : ordB l = true) : ∀ (m : Nat), m ≤ 100 → ∀ s, -(7 * (m : Int)) ≤ vl l m s ∧ vl l m s ≤ 7 * (m : Int)
  | 0, _, s => ⟨by simp [vl], by simp [vl]⟩
  | m + 1, hm, s => by
    simp only [vl]
    refine lp_bound _ (7 * ((m + 1 : Nat) : Int)) (fun c => ?_) _ _ _ ⟨by omega, by omega⟩
    have := gv_bound h (vl l m) (7 * (m : Int)) (by omega) s c (vl_bound h m (by omega))
    omega
theorem vl_more {l : List Int} {m : Nat} {s : ByteArray} (h : duelB l s = true) (hm : 2 * l.length < m + s.size) : vl l m s = vl l (m + 1) s := by
  obtain ⟨K1, h1⟩ := ev_dval l m s h hm
  obtain ⟨K2, h2⟩ := ev_dval l (m + 1) s h (by omega)
  exact dval_one (h1 (K1 + K2) (by omega)) (h2 (K1 + K2) (by omega))
theorem lp_congr {G H : Int → Int} : ∀ (L : List Int) (f : Bool) (b : Int), (∀ c ∈ L, G c = H c) → lp G L f b = lp H L f b
  | [], f, b, _ => rfl
  | c :: t, f, b, h => by
    simp only [lp, h c List.mem_cons_self]
    exact lp_congr t _ _ fun x hx => h x (List.mem_cons_of_mem _ hx)
theorem vl_eq {l : List Int} {s : ByteArray} (h : duelB l s = true) {p q : Int} (hb : beg (l.length : Int) (bs s) 0 0 = some (p, q)) : vl l 14 s = lp (gv l (vl l 14) s) (sl (l.length : Int) p q) true 0 := by
  obtain ⟨h0, h1, h6, hl, _⟩ := duelB_facts h
  show lp (gv l (vl l 13) s) (slO l s) true 0 = _
  rw [slO_eq hb]
  refine lp_congr _ _ _ fun c hc => ?_
  unfold gv
  rw [vl_more (duel_step h hb hc) (by rw [size_append, sg_size]; omega)]
/-! ### what the best signs are -/
theorem bstL_bs (G : Int → Int) (v : Int) : ∀ (L : List Int) (o : ByteArray), (∀ c ∈ L, c = 73 ∨ c = 79) → bs (bstL G v L o) = bs o ++ L.filter (fun c => decide (G c = v))
  | [], o, _ => by simp [bstL]
  | c :: t, o, h => by
    simp only [bstL]
    rw [bstL_bs G v t _ fun x hx => h x (List.mem_cons_of_mem _ hx)]
    by_cases hv : G c = v
    · rw [if_pos hv, List.filter_cons_of_pos (by simp [hv]), bs_append, sg_bs (h c List.mem_cons_self)]
      simp
    · rw [if_neg hv, List.filter_cons_of_neg (by simp [hv])]
theorem sl_sign {n p q : Int} : ∀ c ∈ sl n p q, c = 73 ∨ c = 79 := fun c hc => by rcases sl_mem hc with ⟨e, _⟩ | ⟨e, _⟩; exact .inl e; exact .inr e
theorem bestB_bs {l : List Int} {s : ByteArray} {p q : Int} (hb : beg (l.length : Int) (bs s) 0 0 = some (p, q)) : bs (bestB l s) = (sl (l.length : Int) p q).filter (fun c => decide (gv l (vl l 14) s c = vl l 14 s)) := by
  unfold bestB
  rw [slO_eq hb, bstL_bs _ _ _ _ sl_sign]
  rfl
theorem best_mem {l : List Int} {s : ByteArray} {p q : Int} (hb : beg (l.length : Int) (bs s) 0 0 = some (p, q)) {c : Int} (hc : c ∈ bs (bestB l s)) : c ∈ sl (l.length : Int) p q := by
  rw [bestB_bs hb] at hc
  exact (List.mem_filter.1 hc).1
theorem best_ne {l : List Int} {s : ByteArray} (h : duelB l s = true) {p q : Int} (hb : beg (l.length : Int) (bs s) 0 0 = some (p, q)) (hne : p < (l.length : Int) ∨ q < p) : bs (bestB l s) ≠ [] := by
  rw [bestB_bs hb]
  have hv := vl_eq h hb
  generalize gv l (vl l 14) s = G at hv ⊢
  generalize vl l 14 s = V at hv ⊢
  generalize (l.length : Int) = n at hv hne ⊢
  intro hf
  rw [List.filter_eq_nil_iff] at hf
  unfold sl at hv hf
  by_cases h1 : p < n <;> by_cases h2 : q < p
  · simp only [h1, h2, ↓reduceIte, List.cons_append, List.nil_append, lp, true_or, Bool.false_eq_true, false_or] at hv hf
    have f1 := hf 73 (by simp)
    have f2 := hf 79 (by simp)
    simp only [decide_eq_true_eq] at f1 f2
    split at hv <;> omega
  · simp only [h1, h2, ↓reduceIte, List.append_nil, lp, true_or] at hv hf
    have f1 := hf 73 (by simp)
    simp only [decide_eq_true_eq] at f1
    omega
  · simp only [h1, h2, ↓reduceIte, List.nil_append, lp, true_or] at hv hf
    have f1 := hf 79 (by simp)
    simp only [decide_eq_true_eq] at f1
    omega
  · omega
theorem cut_sg (t : ByteArray) (j : Nat) (hj : j < (bs t).length) (h : ∀ c ∈ bs t, c = 73 ∨ c = 79) : t.extract j (j + 1) = sg ((bs t)[j]'hj) := by
  apply bs_inj
  rw [sg_bs (h _ (List.getElem_mem hj))]
  have hj' : j < t.data.toList.length := by simpa [bs] using hj
  have e : (bs t)[j]'hj = ((t.data.toList[j]'hj').toNat : Int) := by simp [bs]
  rw [e]
  unfold bs
  rw [ByteArray.data_extract, Array.toList_extract, List.extract_eq_take_drop, Nat.add_sub_cancel_left, List.drop_eq_getElem_cons hj']
  rfl
theorem both_StackAfter (l : List Int) (s : ByteArray) (hs : s.size ≤ 1048576) : ∃ (r : List Int) (b : Bool), r.length ≤ 1048576 ∧ Ev (fun k => spec_StackAfter.f k l s) (r, b) ∧ Ev (fun k => impl_StackAfter.f k l s) (r, b) := by
  obtain ⟨K1, h1⟩ := ev_l11Good l s hs
  obtain ⟨K2, h2⟩ := ev_isDuel l s hs
  cases ho : duelB l s with
  | false =>
    refine ⟨[], false, by decide, ⟨K1, fun k hk => ?_⟩, ⟨K2, fun k hk => ?_⟩⟩
    · simp only [spec_StackAfter.f, h1 k hk, ho, Option.bind_some, Bool.false_eq_true, ↓reduceIte]
    · simp only [impl_StackAfter.f, h2 k hk, ho, Option.bind_some, Bool.false_eq_true, ↓reduceIte]
  | true =>
    obtain ⟨K3, h3⟩ := ev_l11Stack l s ho hs
    obtain ⟨K4, h4⟩ := ev_stackAfter l s ho hs
    have hl := stk_len (bs s) l [] 0
    rw [bs_length] at hl
    refine ⟨(stk (bs s) l [] 0).1, true, by simp only [List.length_nil] at hl; omega, ⟨K1 + K3, fun k hk => ?_⟩, ⟨K2 + K4, fun k hk => ?_⟩⟩
    · simp only [spec_StackAfter.f, h1 k (by omega), ho, h3 k (by omega), Option.bind_some, ↓reduceIte]
    · simp only [impl_StackAfter.f, h2 k (by omega), ho, h4 k (by omega), Option.bind_some, ↓reduceIte]
/-! ### the worst sign -/
def wspec (G : Int → Int) (V : Int) : List Int → ByteArray → Int → ByteArray × Int
  | [], w, b => (w, b)
  | c :: t, w, b => if wrap64 (V - G c) > b then wspec G V t (sg c) (wrap64 (V - G c)) else wspec G V t w b
def wimpl (G : Int → Int) : List Int → ByteArray → Int → ByteArray × Int
  | [], w, e => (w, e)
  | c :: t, w, e => if w.toList = ([] : List UInt8) ∨ G c < e then wimpl G t (sg c) (G c) else wimpl G t w e
theorem worst_same (G : Int → Int) (hG : ∀ c, -1000 ≤ G c ∧ G c ≤ 1000) (n p q : Int) (hne : p < n ∨ q < p) : wspec G (lp G (sl n p q) true 0) (sl n p q) ⟨#[]⟩ (-1) = ((wimpl G (sl n p q) ⟨#[]⟩ 0).1, wrap64 (lp G (sl n p q) true 0 - (wimpl G (sl n p q) ⟨#[]⟩ 0).2)) := by
  have e0 : (⟨#[]⟩ : ByteArray).toList = ([] : List UInt8) := by decide +kernel
  have e1 : ¬ (sg 73).toList = ([] : List UInt8) := by decide +kernel
  have g1 := hG 73
  have g2 := hG 79
  unfold sl
  by_cases h1 : p < n <;> by_cases h2 : q < p
  · simp only [h1, h2, ↓reduceIte, List.cons_append, List.nil_append, lp, wspec, wimpl, e0, e1, true_or, false_or, Bool.false_eq_true]
    by_cases h3 : G 79 > G 73
    · have h4 : ¬ G 79 < G 73 := by omega
      simp only [h3, h4, ↓reduceIte]
      rw [wr (i := G 79 - G 73) (by omega) (by omega), wr (i := G 79 - G 79) (by omega) (by omega)]
      have h5 : G 79 - G 73 > -1 := by omega
      have h6 : ¬ G 79 - G 79 > G 79 - G 73 := by omega
      simp only [h5, h6, ↓reduceIte]
    · simp only [h3, ↓reduceIte]
      rw [wr (i := G 73 - G 73) (by omega) (by omega), wr (i := G 73 - G 79) (by omega) (by omega)]
      have h5 : G 73 - G 73 > -1 := by omega
      by_cases h7 : G 79 < G 73
      · have h6 : G 73 - G 79 > G 73 - G 73 := by omega
        simp only [h5, h6, h7, ↓reduceIte]
        rw [wr (i := G 73 - G 79) (by omega) (by omega)]
      · have h6 : ¬ G 73 - G 79 > G 73 - G 73 := by omega
        simp only [h5, h6, h7, ↓reduceIte]
        rw [wr (i := G 73 - G 73) (by omega) (by omega)]
  · simp only [h1, h2, ↓reduceIte, List.cons_append, List.nil_append, List.append_nil, lp, wspec, wimpl, e0, true_or]
    rw [wr (i := G 73 - G 73) (by omega) (by omega)]
    have h5 : G 73 - G 73 > -1 := by omega
    simp only [h5, ↓reduceIte]
  · simp only [h1, h2, ↓reduceIte, List.cons_append, List.nil_append, lp, wspec, wimpl, e0, true_or]
    rw [wr (i := G 79 - G 79) (by omega) (by omega)]
    have h5 : G 79 - G 79 > -1 := by omega
    simp only [h5, ↓reduceIte]
  · omega
theorem ev_wlp (G : Nat → Int → Option Int) (H : Int → Int) : ∀ (L : List Int) (w : ByteArray) (e : Int), (∀ c ∈ L, Ev (fun k => G k c) (H c)) → Ev (fun k => wlp (G k) L w e) (wimpl H L w e)
  | [], w, e, _ => Ev.now _
  | c :: t, w, e, h => by
    simp only [wlp, wimpl]
    refine Ev.bind (h c List.mem_cons_self) ?_
    split
    · exact ev_wlp G H t _ _ fun x hx => h x (List.mem_cons_of_mem _ hx)
    · exact ev_wlp G H t _ _ fun x hx => h x (List.mem_cons_of_mem _ hx)
theorem ev_worst_l0 (l : List Int) (s : ByteArray) (H : Int → Int) (v : Int) (n p q : Int) (hH : ∀ c ∈ sl n p q, Ev (fun k => spec_l11By.f k l s (sg c)) (H c)) : ∀ (d j : Nat) (w : ByteArray) (e : Int), j + d = (sl n p q).length → Ev (fun k => spec_WorstSign.l0 k l s (signs n p q) v w e (j : Int)) ((wspec H v ((sl n p q).drop j) w e).1, (wspec H v ((sl n p q).drop j) w e).2, true)
  | 0, j, w, e, hj => by
    rw [List.drop_of_length_le (by omega)]
    have c : ¬ (j : Int) < ((signs n p q).size : Int) := by rw [signs_length]; omega
    exact Ev.step (f := fun _ => some (w, e, true)) (fun k => by simp only [spec_WorstSign.l0, c, ↓reduceIte] <;> rfl) (Ev.now _)
  | d + 1, j, w, e, hj => by
    have hl2 := sl_len n p q
    have c : (j : Int) < ((signs n p q).size : Int) := by rw [signs_length]; omega
    have c0 : 0 ≤ (j : Int) := by omega
    have e1 : wrap64 ((j : Int) + 1) = ((j + 1 : Nat) : Int) := wj (by omega)
    have c1 : (j : Int) ≤ ((j + 1 : Nat) : Int) := by omega
    have c2 : ((j + 1 : Nat) : Int) ≤ ((signs n p q).size : Int) := by rw [signs_length]; omega
    have hj' : j < (sl n p q).length := by omega
    have e2 := signs_cut n p q j hj'
    rw [List.drop_eq_getElem_cons hj']
    refine Ev.step (f := fun k => (spec_l11By.f k l s (sg ((sl n p q)[j]'hj'))).bind fun t => if wrap64 (v - t) > e then spec_WorstSign.l0 k l s (signs n p q) v (sg ((sl n p q)[j]'hj')) (wrap64 (v - t)) ((j + 1 : Nat) : Int) else spec_WorstSign.l0 k l s (signs n p q) v w e ((j + 1 : Nat) : Int)) (fun k => ?_) ?_
    · simp only [spec_WorstSign.l0, c, c0, e1, c1, c2, Int.toNat_natCast, e2, ↓reduceIte]
    · refine Ev.bind (hH _ (List.getElem_mem hj')) ?_
      simp only [wspec]
      by_cases hv : wrap64 (v - H ((sl n p q)[j]'hj')) > e
      · simp only [hv, ↓reduceIte]
        exact ev_worst_l0 l s H v n p q hH d (j + 1) _ _ (by omega)
      · simp only [hv, ↓reduceIte]
        exact ev_worst_l0 l s H v n p q hH d (j + 1) _ _ (by omega)
theorem wimpl_told (G : Int → Int) (n p q : Int) (hne : p < n ∨ q < p) : ∃ c0, (c0 = 73 ∨ c0 = 79) ∧ wimpl G (sl n p q) ⟨#[]⟩ 0 = (sg c0, G c0) ∧ G c0 ≤ lp G (sl n p q) true 0 := by
  have e0 : (⟨#[]⟩ : ByteArray).toList = ([] : List UInt8) := by decide +kernel
  have e1 : ¬ (sg 73).toList = ([] : List UInt8) := by decide +kernel
  unfold sl
  by_cases h1 : p < n <;> by_cases h2 : q < p
  · simp only [h1, h2, ↓reduceIte, List.cons_append, List.nil_append, lp, wimpl, e0, e1, true_or, false_or, Bool.false_eq_true]
    by_cases h4 : G 79 < G 73
    · refine ⟨79, .inr rfl, by simp only [h4, ↓reduceIte], ?_⟩
      split <;> omega
    · refine ⟨73, .inl rfl, by simp only [h4, ↓reduceIte], ?_⟩
      split <;> omega
  · simp only [h1, h2, ↓reduceIte, List.cons_append, List.nil_append, List.append_nil, lp, wimpl, e0, true_or]
    exact ⟨73, .inl rfl, rfl, Int.le_refl _⟩
  · simp only [h1, h2, ↓reduceIte, List.cons_append, List.nil_append, lp, wimpl, e0, true_or]
    exact ⟨79, .inr rfl, rfl, Int.le_refl _⟩
  · omega
theorem worst_told (l : List Int) (s : ByteArray) (hs : s.size ≤ 1048576) : ∃ r : ByteArray × Int × Bool, Ev (fun k => spec_WorstSign.f k l s) r ∧ Ev (fun k => impl_WorstSign.f k l s) r ∧
    r.2.2 = (duelB l s && decide ((s.size : Int) < 2 * (l.length : Int))) ∧ 0 ≤ r.2.1 ∧ (r.2.2 = true → ∃ c0, (c0 = 73 ∨ c0 = 79) ∧ r.1 = sg c0 ∧ r.2.1 = vl l 14 s - gv l (vl l 14) s c0) := by
  unfold spec_WorstSign.f impl_WorstSign.f
  by_cases h : duelB l s = true
  · obtain ⟨h0, h1, h6, hl, p, q, hb⟩ := duelB_facts h
    have e2 : wrap64 (2 * (l.length : Int)) = 2 * (l.length : Int) := wr (by omega) (by omega)
    have b := beg_bounds (l.length : Int) (bs s) 0 0 p q (by omega) (by omega) hb
    rw [bs_length] at b
    by_cases hend : (s.size : Int) = 2 * (l.length : Int)
    · refine ⟨(⟨#[]⟩, 0, false), ?_, ?_, by simp [h, hend], Int.le_refl _, fun h => absurd h Bool.false_ne_true⟩
      · refine Ev.bind (ev_l11Good l s hs) ?_
        simp only [h, ↓reduceIte, e2, beq_iff_eq.2 hend]
        exact Ev.step (f := fun _ => some (⟨#[]⟩, 0, false)) (fun k => by simp only [spec_WorstSign.j0, ↓reduceIte]) (Ev.now _)
      · refine Ev.bind (ev_isDuel l s hs) ?_
        simp only [h, ↓reduceIte, e2, hend]
        exact Ev.now _
    · have hne : p < (l.length : Int) ∨ q < p := by omega
      have hG : ∀ c, -1000 ≤ gv l (vl l 14) s c ∧ gv l (vl l 14) s c ≤ 1000 := fun c => by
        have := gv_bound h0 (vl l 14) 98 (by decide) s c (fun s => by have := vl_bound h0 14 (by decide) s; omega)
        omega
      have same := worst_same (gv l (vl l 14) s) hG (l.length : Int) p q hne
      rw [← vl_eq h hb] at same
      obtain ⟨c0, hc0, ht1, ht2⟩ := wimpl_told (gv l (vl l 14) s) (l.length : Int) p q hne
      rw [← vl_eq h hb] at ht2
      have hg0 := hG c0
      have hv0 := vl_bound h0 14 (by decide) s
      refine ⟨((wimpl (gv l (vl l 14) s) (sl (l.length : Int) p q) ⟨#[]⟩ 0).1, wrap64 (vl l 14 s - (wimpl (gv l (vl l 14) s) (sl (l.length : Int) p q) ⟨#[]⟩ 0).2), true), ?_, ?_, by simp [h]; omega, ?_, ?_⟩
      · refine Ev.bind (ev_l11Good l s hs) ?_
        simp only [h, ↓reduceIte, e2, beq_eq_false_iff_ne.2 hend]
        refine Ev.step (f := fun k => (spec_l11Signs.f k (l.length : Int) s).bind fun t264 => ((spec_l11Value.f k l s).bind fun t265 => (spec_WorstSign.l0 k l s t264 t265 (⟨#[]⟩ : ByteArray) (-1) 0))) (fun k => by simp only [spec_WorstSign.j0, Bool.false_eq_true, ↓reduceIte]) ?_
        refine Ev.bind (ev_l11Signs (l.length : Int) s (by omega) p q (isBeg_of h) hb) (Ev.bind (ev_l11Value l s h) ?_)
        have := ev_worst_l0 l s (gv l (vl l 14) s) (vl l 14 s) (l.length : Int) p q (fun c hc => ev_by l s h p q hb c hc) _ 0 ⟨#[]⟩ (-1) (Nat.zero_add _)
        rw [List.drop_zero, same] at this
        exact this
      · refine Ev.bind (ev_isDuel l s hs) ?_
        simp only [h, ↓reduceIte, e2, hend]
        refine Ev.bind (ev_nextSigns (l.length : Int) s (by omega) p q (isBeg_of h) hb) ?_
        have hl2 := sl_len (l.length : Int) p q
        simp only [show ((signs (l.length : Int) p q).size ≤ 2 ∧ s.size ≤ 1000) = True from eq_true ⟨by rw [signs_length]; exact hl2, by omega⟩, ↓reduceIte]
        rw [show bytesOf (signs (l.length : Int) p q) = sl (l.length : Int) p q from signs_bs _ _ _]
        refine Ev.bind (ev_wlp (fun k => dgain k l (dval k l 14) s) (gv l (vl l 14) s) _ _ _ fun c hc => ev_gain l s h p q hb c hc) ?_
        exact Ev.bind (ev_dval l 14 s h (by omega)) (Ev.now _)
      · rw [ht1]
        show 0 ≤ wrap64 (vl l 14 s - gv l (vl l 14) s c0)
        rw [wr (by omega) (by omega)]
        omega
      · intro _
        refine ⟨c0, hc0, by rw [ht1], ?_⟩
        rw [ht1]
        show wrap64 (vl l 14 s - gv l (vl l 14) s c0) = _
        rw [wr (by omega) (by omega)]
  · refine ⟨(⟨#[]⟩, 0, false), ?_, ?_, by simp [h], Int.le_refl _, fun h => absurd h Bool.false_ne_true⟩
    · refine Ev.bind (ev_l11Good l s hs) ?_
      simp only [h, Bool.false_eq_true, ↓reduceIte]
      exact Ev.step (f := fun _ => some (⟨#[]⟩, 0, false)) (fun k => by simp only [spec_WorstSign.j0, ↓reduceIte]) (Ev.now _)
    · refine Ev.bind (ev_isDuel l s hs) ?_
      simp only [h, Bool.false_eq_true, ↓reduceIte]
      exact Ev.now _
theorem bs_prefix (s : ByteArray) (i : Nat) : bs (s.extract 0 i) = (bs s).take i := by
  unfold bs
  rw [ByteArray.data_extract, Array.toList_extract, List.extract_eq_take_drop, List.drop_zero, Nat.sub_zero, List.map_take]
theorem prefix_duel {l : List Int} {s : ByteArray} (h : duelB l s = true) (i : Nat) : duelB l (s.extract 0 i) = true := by
  obtain ⟨h0, h1, h6, hl, p, q, hb⟩ := duelB_facts h
  have e : bs s = (bs s).take i ++ (bs s).drop i := (List.take_append_drop _ _).symm
  rw [e, beg_append] at hb
  obtain ⟨r, hr, _⟩ := Option.bind_eq_some_iff.1 hb
  have hsz : (s.extract 0 i).size ≤ s.size := by rw [← bs_length, bs_prefix, List.length_take, bs_length]; omega
  unfold duelB isBeg
  rw [h0, bs_prefix, hr]
  simp only [Bool.true_and, Bool.and_eq_true, decide_eq_true_eq, Option.isSome_some, and_true]
  omega
def popd (l : List Int) (s : ByteArray) (i : Nat) : Int := (stk ((bs s).take (i + 1)) l [] 0).2
def scr (l : List Int) (s : ByteArray) : Nat → Nat → Int → Int → Int × Int
  | 0, _, s0, s1 => (s0, s1)
  | d + 1, i, s0, s1 => if i % 2 = 0 then scr l s d (i + 1) (wrap64 (s0 + popd l s i)) s1 else scr l s d (i + 1) s0 (wrap64 (s1 + popd l s i))
theorem popd_eq (l : List Int) (s : ByteArray) (i : Nat) (hi : i < s.size) : popd l s i = if bt s (i : Int) = 73 then 0 else (stk ((bs s).take i) l [] 0).1.getLastD 0 := by
  unfold popd
  rw [show (bs s).take (i + 1) = (bs s).take i ++ [bt s (i : Int)] by rw [← bs_get s i hi]; exact (List.take_append_getElem (by rw [bs_length]; exact hi)).symm]
  exact stk_snoc _ _ _ _ _
theorem popd_bound {l : List Int} {s : ByteArray} (h : duelB l s = true) (i : Nat) (hi : i < s.size) : 0 ≤ popd l s i ∧ popd l s i ≤ 7 := by
  rw [popd_eq l s i hi]
  split
  · exact ⟨by decide, by decide⟩
  · refine last_bound (stk_bound _ _ _ _ (fun x hx => ?_) (fun x hx => absurd hx (by simp)))
    obtain ⟨h0, _⟩ := duelB_facts h
    have h7 := (ordB_len h0).2
    have := ordB_range h0 x hx
    omega
theorem ev_iscore (l : List Int) (s : ByteArray) (h : duelB l s = true) : ∀ (d i : Nat) (s0 s1 : Int), i + d = s.size → Ev (fun k => iscore k l s d i s0 s1) (scr l s d i s0 s1)
  | 0, _, _, _, _ => Ev.now _
  | d + 1, i, s0, s1, hi => by
    obtain ⟨h0, h1, h6, hl, _⟩ := duelB_facts h
    simp only [iscore, scr]
    have hp := prefix_duel h (i + 1)
    have hsz : (s.extract 0 (i + 1)).size ≤ s.size := by rw [← bs_length, bs_prefix, List.length_take, bs_length]; omega
    refine Ev.bind (ev_stackAfter l (s.extract 0 (i + 1)) hp (by omega)) ?_
    rw [show (stk (bs (s.extract 0 (i + 1))) l [] 0).2 = popd l s i by rw [bs_prefix]; rfl]
    split
    · exact ev_iscore l s h d (i + 1) _ _ (by omega)
    · exact ev_iscore l s h d (i + 1) _ _ (by omega)
theorem ev_sscore (l : List Int) (s : ByteArray) (h : duelB l s = true) : ∀ (d i : Nat) (s0 s1 : Int), i + d = s.size → 0 ≤ s0 → s0 ≤ 7 * (i : Int) → 0 ≤ s1 → s1 ≤ 7 * (i : Int) → Ev (fun k => sscore k l s d i s0 s1) (scr l s d i s0 s1)
  | 0, _, _, _, _, _, _, _, _ => Ev.now _
  | d + 1, i, s0, s1, hi, a0, a1, b0, b1 => by
    obtain ⟨h0, h1, h6, hl, p, q, hb⟩ := duelB_facts h
    have hlt : i < s.size := by omega
    have hpb := popd_bound h i hlt
    have hpe := popd_eq l s i hlt
    have hp := prefix_duel h i
    have hsz : (s.extract 0 i).size ≤ s.size := by rw [← bs_length, bs_prefix, List.length_take, bs_length]; omega
    have e : bs s = (bs s).take i ++ (bs s).drop i := (List.take_append_drop _ _).symm
    have hb2 := hb
    rw [e, beg_append] at hb2
    obtain ⟨⟨p', q'⟩, hr, hb3⟩ := Option.bind_eq_some_iff.1 hb2
    rw [bs_drop s i hlt] at hb3
    simp only [beg] at hb3
    simp only [sscore, scr]
    by_cases hO : bt s (i : Int) = 79
    · have hq : q' < p' := by
        rw [hO, if_neg (by decide), if_pos rfl] at hb3
        by_cases hq : q' < p'
        · exact hq
        · rw [if_neg hq] at hb3
          cases hb3
      have hh := stk_high (l.length : Int) ((bs s).take i) l [] 0 0 0 p' q' hr (by simp)
      have hst := ev_l11Stack l (s.extract 0 i) hp (by omega)
      rw [bs_prefix] at hst
      have hlen := stk_len ((bs s).take i) l [] 0
      rw [List.length_take, bs_length, List.length_nil] at hlen
      rw [hO, if_neg (show ¬ ((79 : Int) = 73) by decide)] at hpe
      simp only [hO, ↓reduceIte]
      refine Ev.bind hst ?_
      generalize (stk ((bs s).take i) l [] 0).1 = t at hh hpe hlen ⊢
      simp only [show (0 < t.length ∧ t.length ≤ 1000000) = True from eq_true ⟨by omega, by omega⟩, ↓reduceIte]
      rw [show rd t ((t.length : Int) - 1) = popd l s i by
        rw [hpe]
        rcases snoc_cases t with rfl | ⟨m, x, rfl⟩
        · simp at hh; omega
        · rw [show (((m ++ [x]).length : Int) - 1) = (m.length : Int) by simp, rd_nat]; simp]
      split
      · exact ev_sscore l s h d (i + 1) _ _ (by omega) (by rw [wr (by omega) (by omega)]; omega) (by rw [wr (by omega) (by omega)]; omega) b0 (by omega)
      · exact ev_sscore l s h d (i + 1) _ _ (by omega) a0 (by omega) (by rw [wr (by omega) (by omega)]; omega) (by rw [wr (by omega) (by omega)]; omega)
    · have hI : bt s (i : Int) = 73 := by
        by_cases hI : bt s (i : Int) = 73
        · exact hI
        · rw [if_neg hI, if_neg hO] at hb3
          cases hb3
      rw [if_pos hI] at hpe
      simp only [hO, ↓reduceIte, hpe, Int.add_zero]
      rw [wr (i := s0) (by omega) (by omega), wr (i := s1) (by omega) (by omega)]
      split
      · exact ev_sscore l s h d (i + 1) _ _ (by omega) a0 (by omega) b0 (by omega)
      · exact ev_sscore l s h d (i + 1) _ _ (by omega) a0 (by omega) b0 (by omega)
theorem both_ScoresOf (l : List Int) (s : ByteArray) (hs : s.size ≤ 1048576) : ∃ r, Ev (fun k => spec_ScoresOf.f k l s) r ∧ Ev (fun k => impl_ScoresOf.f k l s) r := by
  unfold spec_ScoresOf.f impl_ScoresOf.f
  by_cases h : duelB l s = true
  · refine ⟨((scr l s s.size 0 0 0).1, (scr l s s.size 0 0 0).2, true), ?_, ?_⟩
    · refine Ev.bind (ev_l11Good l s hs) ?_
      simp only [h, hs, ↓reduceIte]
      exact Ev.bind (ev_sscore l s h s.size 0 0 0 (by omega) (by omega) (by omega) (by omega) (by omega)) (Ev.now _)
    · refine Ev.bind (ev_isDuel l s hs) ?_
      simp only [h, hs, ↓reduceIte]
      exact Ev.bind (ev_iscore l s h s.size 0 0 0 (by omega)) (Ev.now _)
  · refine ⟨(0, 0, false), ?_, ?_⟩
    · refine Ev.bind (ev_l11Good l s hs) ?_
      simp only [h, Bool.false_eq_true, ↓reduceIte]
      exact Ev.now _
    · refine Ev.bind (ev_isDuel l s hs) ?_
      simp only [h, Bool.false_eq_true, ↓reduceIte]
      exact Ev.now _
theorem ev_specIsBeginning (n : Int) (s : ByteArray) (hs : s.size ≤ 1048576) : Ev (fun k => spec_IsBeginning.f k n s) (isBeg n s) := by
  unfold spec_IsBeginning.f isBeg
  simp only [ev_l1In, Option.bind_some]
  by_cases h1 : 1 ≤ n
  · by_cases h6 : n ≤ 6
    · simp only [h1, h6, decide_true, Bool.and_true, ↓reduceIte, Bool.true_and]
      refine Ev.bind (ev_l11In n s h1 h6 hs) ?_
      by_cases hl : (s.size : Int) ≤ 2 * n
      · simp only [hl, ↓reduceIte, decide_true, Bool.true_and]
        rw [begR_some n _ (by omega)]
        exact Ev.now _
      · simp only [hl, ↓reduceIte, decide_false, Bool.false_and]
        exact Ev.now _
    · simp only [h6, decide_false, Bool.and_false, Bool.false_and, Bool.false_eq_true, ↓reduceIte]
      exact Ev.now _
  · simp only [h1, decide_false, Bool.false_and, Bool.false_eq_true, ↓reduceIte]
    exact Ev.now _
/-! ### draws: each tells something, and reads a bounded number of choices -/
def Bytes (s : List Int) : Prop := ∀ x ∈ s, 0 ≤ x ∧ x ≤ 255
theorem bytes_of {l : List Int} (h : ∀ x ∈ l, (Lit.int .u8 x).wf = true) : Bytes l := by
  intro x hx
  exact bounds_u8 (h x hx)
theorem u64r (x : Int) : 0 ≤ IntKind.u64.wrap x ∧ IntKind.u64.wrap x < 18446744073709551616 := by
  simp [IntKind.wrap, IntKind.bits, IntKind.signed]
  omega
theorem and255 (y : Int) (h0 : 0 ≤ y) (h1 : y < 18446744073709551616) : 0 ≤ Go.bits .and .u64 (y / 1099511627776) 255 ∧ Go.bits .and .u64 (y / 1099511627776) 255 ≤ 255 := by
  have h := bits_mask .u64 63 (by decide) (fun n a b => by simp [IntKind.wrap, IntKind.bits, IntKind.signed]; omega) 8 (by decide) (y / 1099511627776) (by omega) (by omega)
  have e : ((2 : Int) ^ 8 - 1) = 255 := by decide
  have e2 : ((2 : Int) ^ 8) = 256 := by decide
  rw [e, e2] at h
  rw [h]
  omega
theorem rd_byte {s : List Int} (hs : Bytes s) (i : Int) (h0 : 0 ≤ i) (h1 : i < (s.length : Int)) : 0 ≤ rd s i ∧ rd s i ≤ 255 := by
  have e := rd_get s i.toNat (by omega)
  rw [Int.toNat_of_nonneg h0] at e
  rw [e]
  exact hs _ (List.getElem_mem _)
theorem next_ok {s : List Int} (hs : Bytes s) (a sd : Int) (h0 : 0 ≤ a) (h1 : a ≤ 4611686018427387904) : ∃ b sd', spec_l1Cur_next.f s a sd = some (b, a + 1, sd') ∧ 0 ≤ b ∧ b ≤ 255 := by
  unfold spec_l1Cur_next.f
  have e : Aside0 (wrap64 (a + 1) = a + 1) := ⟨wr (by omega) (by omega)⟩
  rw [e.out]
  by_cases c : a < (s.length : Int)
  · have c2 : a + 1 ≤ (s.length : Int) := by omega
    have hb := rd_byte hs a h0 c
    rw [if_pos c, if_pos h0, if_pos c2]
    refine ⟨_, _, rfl, ?_, ?_⟩ <;> rw [wr (by omega) (by omega)] <;> omega
  · have c2 : ¬ a + 1 ≤ (s.length : Int) := by omega
    rw [if_neg c, if_neg c2]
    have hr := u64r (IntKind.u64.wrap (IntKind.u64.wrap (sd * 6364136223846793005)) + 462197)
    have ha := and255 _ hr.1 hr.2
    refine ⟨_, _, rfl, ?_, ?_⟩ <;> rw [wr (by omega) (by omega)] <;> omega
theorem pick_ok {s : List Int} (hs : Bytes s) (a sd n : Int) (h0 : 0 ≤ a) (h1 : a ≤ 1000000000) : ∃ r a' sd', spec_l1Cur_pick.f s a sd n = some (r, a', sd') ∧ 0 ≤ r ∧ (r < n ∨ r = 0) ∧ a ≤ a' ∧ a' ≤ a + 2 := by
  unfold spec_l1Cur_pick.f
  by_cases c : n ≤ 1
  · rw [if_pos c]
    exact ⟨0, a, sd, rfl, by omega, .inr rfl, by omega, by omega⟩
  · rw [if_neg c]
    obtain ⟨b, s1, e1, hb0, hb1⟩ := next_ok hs a sd h0 (by omega)
    rw [e1, Option.bind_some]
    have c0 : ¬ n = 0 := by omega
    by_cases c2 : n > 200
    · obtain ⟨b2, s2, e2, hc0, hc1⟩ := next_ok hs (a + 1) s1 (by omega) (by omega)
      rw [if_pos c2, e2, Option.bind_some, if_neg c0]
      refine ⟨_, _, _, rfl, ?_, .inl ?_, by dsimp only; omega, by dsimp only; omega⟩
      · rw [wr (i := b * 256) (by omega) (by omega), wr (by omega) (by omega)]
        exact Int.tmod_nonneg _ (by omega)
      · rw [wr (i := b * 256) (by omega) (by omega), wr (by omega) (by omega)]
        exact Int.tmod_lt_of_pos _ (by omega)
    · rw [if_neg c2, if_neg c0]
      exact ⟨_, _, _, rfl, Int.tmod_nonneg _ (by omega), .inl (Int.tmod_lt_of_pos _ (by omega)), by dsimp only; omega, by dsimp only; omega⟩
theorem one_ok {s : List Int} (hs : Bytes s) (a sd n : Int) (h0 : 0 ≤ a) (h1 : a ≤ 1000000000) : ∃ r a' sd', spec_l1Cur_one.f s a sd n = some (r, a', sd') ∧ a ≤ a' ∧ a' ≤ a + 2 := by
  unfold spec_l1Cur_one.f
  obtain ⟨r, a', s', e, _, _, h2, h3⟩ := pick_ok hs a sd n h0 h1
  rw [e]
  exact ⟨_, _, _, rfl, h2, h3⟩
theorem rd_mem (l : List Int) (i : Int) (h0 : 0 ≤ i) (h1 : i < (l.length : Int)) : rd l i ∈ l := by
  have e := rd_get l i.toNat (by omega)
  rw [Int.toNat_of_nonneg h0] at e
  rw [e]
  exact List.getElem_mem _
theorem among_ok {s : List Int} (hs : Bytes s) (a sd : Int) (l : List Int) (h0 : 0 ≤ a) (h1 : a ≤ 1000000000) (hl : 0 < l.length) : ∃ r a' sd', spec_l1Cur_among.f s a sd l = some (r, a', sd') ∧ r ∈ l ∧ a ≤ a' ∧ a' ≤ a + 2 := by
  unfold spec_l1Cur_among.f
  obtain ⟨r, a', s', e, k0, k1, h2, h3⟩ := pick_ok hs a sd (l.length : Int) h0 h1
  have c : r < (l.length : Int) := by rcases k1 with k1 | k1 <;> omega
  rw [e, Option.bind_some, if_pos k0, if_pos c]
  exact ⟨_, _, _, rfl, rd_mem l r k0 c, h2, h3⟩
theorem size_to (t : ByteArray) (i : Nat) : (t.extract 0 i).size ≤ i ∧ (t.extract 0 i).size ≤ t.size := by
  rw [ByteArray.size_extract]
  omega
theorem size_from (t : ByteArray) (i : Nat) : (t.extract i t.size).size = t.size - i := by
  rw [ByteArray.size_extract]
  omega
theorem spoilt_ok {s : List Int} (hs : Bytes s) (a sd : Int) (t v : ByteArray) (h0 : 0 ≤ a) (h1 : a ≤ 1000000) (ht : t.size ≤ 1000000) (hv : 1 ≤ v.size ∧ v.size ≤ 1000) :
    ∃ r a' sd', spec_l1Cur_spoilt.f s a sd t v = some (r, a', sd') ∧ r.size ≤ t.size + 1 ∧ a ≤ a' ∧ a' ≤ a + 6 := by
  unfold spec_l1Cur_spoilt.f
  by_cases c : t.size = 0
  · have c2 : (1 : Int) ≤ (v.size : Int) := by omega
    rw [if_pos c, if_pos c2]
    have := size_to v 1
    exact ⟨_, _, _, rfl, by omega, by omega, by omega⟩
  · rw [if_neg c]
    obtain ⟨i, a1, s1, e1, i0, i1, p1, q1⟩ := pick_ok hs a sd (t.size : Int) h0 (by omega)
    have hi : i < (t.size : Int) := by rcases i1 with h | h <;> omega
    obtain ⟨j, a2, s2, e2, j0, j1, p2, q2⟩ := pick_ok hs a1 s1 (v.size : Int) (by omega) (by omega)
    have hj : j < (v.size : Int) := by rcases j1 with h | h <;> omega
    obtain ⟨m, a3, s3, e3, m0, m1, p3, q3⟩ := pick_ok hs a2 s2 3 (by omega) (by omega)
    rw [e1]
    simp only [Option.bind_some]
    rw [e2]
    simp only [Option.bind_some]
    rw [e3]
    simp only [Option.bind_some]
    rw [if_pos ⟨i0, by omega, j0, by omega, by omega, by omega⟩]
    refine ⟨_, _, _, rfl, ?_, by omega, by omega⟩
    have z1 := size_to t i.toNat
    have z2 := size_to (v.extract j.toNat v.size) 1
    have z3 := size_from t i.toNat
    have z4 := size_from t (i + 1).toNat
    by_cases m2 : m = 0
    · rw [if_pos m2]
      simp only [size_append]
      omega
    · rw [if_neg m2]
      by_cases m3 : m = 1
      · rw [if_pos m3]
        simp only [size_append]
        omega
      · rw [if_neg m3]
        simp only [size_append]
        omega
/-! ### draws of orders, words and beginnings -/
theorem own_eq (l : List Int) (hl : l.length ≤ 100000) : spec_l1Own.f l = some l := by
  unfold spec_l1Own.f
  have c : ([] : List Int).length + l.length < 17592186044416 := by rw [List.length_nil]; omega
  simp only [Option.bind_some, c, ↓reduceIte, List.nil_append]
theorem order_loop {s : List Int} (hs : Bytes s) : ∀ (n : Nat) (x : List Int) (a sd : Int), n + x.length ≤ 100 → 0 < n + x.length → 0 ≤ a → a + 2 * (n : Int) ≤ 10000 →
    ∃ o a' sd', Ev (fun k => spec_l1Cur_order.l0 k x (n : Int) s a sd) (o, a', sd') ∧ o.length ≤ 100 ∧ a ≤ a' ∧ a' ≤ a + 2 * (n : Int) + 6 := by
  intro n
  induction n with
  | zero =>
    intro x a sd hx hp h0 h1
    have c : ¬ ((0 : Nat) : Int) > 0 := by omega
    obtain ⟨m, a1, s1, e1, m0, m1, p1, q1⟩ := pick_ok hs a sd 40 h0 (by omega)
    by_cases c0 : m = 0
    · refine ⟨[], a1, s1, Ev.step (f := fun k => spec_l1Cur_order.l0 (k + 1) x ((0 : Nat) : Int) s a sd) (fun k => rfl) ?_, by decide, by omega, by omega⟩
      simp only [spec_l1Cur_order.l0, c, ↓reduceIte]
      refine Ev.bind (a := (m, a1, s1)) ⟨0, fun _ _ => e1⟩ ?_
      simp only [c0, ↓reduceIte]
      exact Ev.now _
    · by_cases c1 : m = 1
      · obtain ⟨i, a2, s2, e2, i0, i1, p2, q2⟩ := pick_ok hs a1 s1 (x.length : Int) (by omega) (by omega)
        obtain ⟨v, a3, s3, e3, _, p3, q3⟩ := among_ok hs a2 s2 ([0, 1, 8, (-1)] : List Int) (by omega) (by omega) (by decide)
        have ci : i < (x.length : Int) := by rcases i1 with h | h <;> omega
        refine ⟨x.set i.toNat v, a3, s3, Ev.step (f := fun k => spec_l1Cur_order.l0 (k + 1) x ((0 : Nat) : Int) s a sd) (fun k => rfl) ?_, by rw [List.length_set]; omega, by omega, by omega⟩
        simp only [spec_l1Cur_order.l0, c, ↓reduceIte]
        refine Ev.bind (a := (m, a1, s1)) ⟨0, fun _ _ => e1⟩ ?_
        simp only [c0, c1, ↓reduceIte]
        refine Ev.bind (a := (i, a2, s2)) ⟨0, fun _ _ => e2⟩ ?_
        refine Ev.bind (a := (v, a3, s3)) ⟨0, fun _ _ => e3⟩ ?_
        simp only [i0, ci, ↓reduceIte]
        exact Ev.now _
      · by_cases c2 : m = 2
        · refine ⟨[1, 2, 3, 4, 5, 6, 7, 8], a1, s1, Ev.step (f := fun k => spec_l1Cur_order.l0 (k + 1) x ((0 : Nat) : Int) s a sd) (fun k => rfl) ?_, by decide, by omega, by omega⟩
          simp only [spec_l1Cur_order.l0, c, ↓reduceIte]
          refine Ev.bind (a := (m, a1, s1)) ⟨0, fun _ _ => e1⟩ ?_
          simp only [c0, c1, c2, ↓reduceIte]
          exact Ev.now _
        · refine ⟨x, a1, s1, Ev.step (f := fun k => spec_l1Cur_order.l0 (k + 1) x ((0 : Nat) : Int) s a sd) (fun k => rfl) ?_, by omega, by omega, by omega⟩
          simp only [spec_l1Cur_order.l0, c, ↓reduceIte]
          refine Ev.bind (a := (m, a1, s1)) ⟨0, fun _ _ => e1⟩ ?_
          simp only [c0, c1, c2, ↓reduceIte]
          exact Ev.now _
  | succ n ih =>
    intro x a sd hx hp h0 h1
    have c : ((n + 1 : Nat) : Int) > 0 := by omega
    have ew := Aside0.mk (show wrap64 (((n + 1 : Nat) : Int) - 1) = (n : Int) from by rw [wr (by omega) (by omega)]; omega)
    have el := Aside0.mk (show wrap64 ((x.length : Int) + 1) = (x.length : Int) + 1 from wr (by omega) (by omega))
    obtain ⟨i, a1, s1, e1, i0, i1, p1, q1⟩ := pick_ok hs a sd ((x.length : Int) + 1) h0 (by omega)
    have ci : i ≤ (x.length : Int) := by rcases i1 with h | h <;> omega
    have ht : (x.take i.toNat).length ≤ x.length := by rw [List.length_take]; omega
    have hd : (x.drop i.toNat).length = x.length - i.toNat := List.length_drop
    have ht2 : (x.take i.toNat).length = i.toNat := by rw [List.length_take]; omega
    have hL : (x.take i.toNat ++ [(x.length : Int) + 1] ++ x.drop i.toNat).length = x.length + 1 := by rw [List.length_append, List.length_append, List.length_singleton]; omega
    have k1 : (x.take i.toNat).length + ([(x.length : Int) + 1] : List Int).length < 17592186044416 := by rw [List.length_singleton]; omega
    have k2 : (x.take i.toNat ++ [(x.length : Int) + 1]).length + (x.drop i.toNat).length < 17592186044416 := by rw [List.length_append, List.length_singleton]; omega
    obtain ⟨o, a', sd', hf, zo, p2, q2⟩ := ih (x.take i.toNat ++ [(x.length : Int) + 1] ++ x.drop i.toNat) a1 s1 (by rw [hL]; omega) (by rw [hL]; omega) (by omega) (by omega)
    refine ⟨o, a', sd', Ev.step (f := fun k => spec_l1Cur_order.l0 (k + 1) x ((n + 1 : Nat) : Int) s a sd) (fun k => rfl) ?_, zo, by omega, by omega⟩
    simp only [spec_l1Cur_order.l0, c, ew.out, el.out, ↓reduceIte]
    refine Ev.bind (a := (i, a1, s1)) ⟨0, fun _ _ => e1⟩ ?_
    simp only [i0, ci, own_eq (x.take i.toNat) (by omega), Option.bind_some, k1, k2, ↓reduceIte]
    exact hf
theorem order_ok {s : List Int} (hs : Bytes s) (a sd : Int) (h0 : 0 ≤ a) (h1 : a ≤ 1000) : ∃ o a' sd', Ev (fun k => spec_l1Cur_order.f k s a sd) (o, a', sd') ∧ o.length ≤ 100 ∧ a ≤ a' ∧ a' ≤ a + 30 := by
  obtain ⟨v, a1, s1, e1, hv, p1, q1⟩ := among_ok hs a sd ([4, 5, 3, 6, 2, 7, 1, 4] : List Int) h0 (by omega) (by decide)
  have hv2 : 1 ≤ v ∧ v ≤ 7 := (by decide : ∀ v ∈ ([4, 5, 3, 6, 2, 7, 1, 4] : List Int), 1 ≤ v ∧ v ≤ 7) v hv
  obtain ⟨n, hn⟩ : ∃ n : Nat, v = (n : Int) := ⟨v.toNat, by omega⟩
  subst hn
  obtain ⟨o, a', sd', hf, zo, p2, q2⟩ := order_loop hs n [] a1 s1 (by rw [List.length_nil]; omega) (by rw [List.length_nil]; omega) (by omega) (by omega)
  refine ⟨o, a', sd', ?_, zo, by omega, by omega⟩
  unfold spec_l1Cur_order.f
  exact Ev.bind (a := ((n : Int), a1, s1)) ⟨0, fun _ _ => e1⟩ hf
theorem word_loop {s : List Int} (hs : Bytes s) (n : Int) (hn : 0 ≤ n ∧ n ≤ 100) : ∀ (d : Nat) (w : ByteArray) (i a sd : Int), (w.size : Int) + d = 2 * n → -1000 ≤ i - (d : Int) → i + (d : Int) ≤ 1000 → 0 ≤ a → a + 2 * (d : Int) ≤ 10000 →
    ∃ w' a' sd', Ev (fun k => spec_l1Cur_word.l0 k n w i s a sd) (w', a', sd') ∧ w'.size ≤ 300 ∧ a ≤ a' ∧ a' ≤ a + 2 * (d : Int) + 10 := by
  intro d
  induction d with
  | zero =>
    intro w i a sd hw _ _ h0 h1
    have e2 := Aside0.mk (show wrap64 (2 * n) = 2 * n from wr (by omega) (by omega))
    have c : ¬ (w.size : Int) < 2 * n := by omega
    obtain ⟨b, a1, s1, e1, p1, q1⟩ := one_ok hs a sd 24 h0 (by omega)
    cases b with
    | true =>
      obtain ⟨t, a2, s2, e3, z, p2, q2⟩ := spoilt_ok hs a1 s1 w (⟨#[73, 79, 88]⟩ : ByteArray) (by omega) (by omega) (by omega) (by decide)
      refine ⟨t, a2, s2, Ev.step (f := fun k => spec_l1Cur_word.l0 (k + 1) n w i s a sd) (fun k => rfl) ?_, by omega, by omega, by omega⟩
      simp only [spec_l1Cur_word.l0, e2.out, c, ↓reduceIte]
      refine Ev.bind (a := (true, a1, s1)) ⟨0, fun _ _ => e1⟩ ?_
      simp only [↓reduceIte]
      exact Ev.bind (a := (t, a2, s2)) ⟨0, fun _ _ => e3⟩ (Ev.now _)
    | false =>
      refine ⟨w, a1, s1, Ev.step (f := fun k => spec_l1Cur_word.l0 (k + 1) n w i s a sd) (fun k => rfl) ?_, by omega, by omega, by omega⟩
      simp only [spec_l1Cur_word.l0, e2.out, c, ↓reduceIte]
      refine Ev.bind (a := (false, a1, s1)) ⟨0, fun _ _ => e1⟩ ?_
      simp only [Bool.false_eq_true, ↓reduceIte]
      exact Ev.now _
  | succ d ih =>
    intro w i a sd hw hi1 hi2 h0 h1
    have e2 := Aside0.mk (show wrap64 (2 * n) = 2 * n from wr (by omega) (by omega))
    have e3 := Aside0.mk (show wrap64 (2 * n - (w.size : Int)) = 2 * n - (w.size : Int) from wr (by omega) (by omega))
    have e4 := Aside0.mk (show wrap64 (i + 1) = i + 1 from wr (by omega) (by omega))
    have e5 := Aside0.mk (show wrap64 (i - 1) = i - 1 from wr (by omega) (by omega))
    have c : (w.size : Int) < 2 * n := by omega
    have z : w.size + 1 ≤ 9223372036854775807 := by omega
    have zI : ((w ++ (⟨#[73]⟩ : ByteArray)).size : Int) + (d : Int) = 2 * n := by rw [size_append, show (⟨#[73]⟩ : ByteArray).size = 1 from rfl]; omega
    have zO : ((w ++ (⟨#[79]⟩ : ByteArray)).size : Int) + (d : Int) = 2 * n := by rw [size_append, show (⟨#[79]⟩ : ByteArray).size = 1 from rfl]; omega
    by_cases c0 : i = 0
    · obtain ⟨w', a', sd', hf, hz, p2, q2⟩ := ih (w ++ (⟨#[73]⟩ : ByteArray)) (i + 1) a sd zI (by omega) (by omega) h0 (by omega)
      refine ⟨w', a', sd', Ev.step (fun k => ?_) hf, hz, by omega, by omega⟩
      simp only [spec_l1Cur_word.l0, e2.out, c, c0, z, ↓reduceIte]
      rw [← c0, e4.out]
    · by_cases c1 : i < 2 * n - (w.size : Int)
      · obtain ⟨b, a1, s1, e1, p1, q1⟩ := one_ok hs a sd 2 h0 (by omega)
        cases b with
        | true =>
          obtain ⟨w', a', sd', hf, hz, p2, q2⟩ := ih (w ++ (⟨#[73]⟩ : ByteArray)) (i + 1) a1 s1 zI (by omega) (by omega) (by omega) (by omega)
          refine ⟨w', a', sd', Ev.step (f := fun k => spec_l1Cur_word.l0 (k + 1) n w i s a sd) (fun k => rfl) ?_, hz, by omega, by omega⟩
          simp only [spec_l1Cur_word.l0, e2.out, e3.out, e4.out, c, c0, c1, ↓reduceIte]
          refine Ev.bind (a := (true, a1, s1)) ⟨0, fun _ _ => e1⟩ ?_
          simp only [z, ↓reduceIte]
          exact hf
        | false =>
          obtain ⟨w', a', sd', hf, hz, p2, q2⟩ := ih (w ++ (⟨#[79]⟩ : ByteArray)) (i - 1) a1 s1 zO (by omega) (by omega) (by omega) (by omega)
          refine ⟨w', a', sd', Ev.step (f := fun k => spec_l1Cur_word.l0 (k + 1) n w i s a sd) (fun k => rfl) ?_, hz, by omega, by omega⟩
          simp only [spec_l1Cur_word.l0, e2.out, e3.out, e5.out, c, c0, c1, ↓reduceIte]
          refine Ev.bind (a := (false, a1, s1)) ⟨0, fun _ _ => e1⟩ ?_
          simp only [Bool.false_eq_true, z, ↓reduceIte]
          exact hf
      · obtain ⟨w', a', sd', hf, hz, p2, q2⟩ := ih (w ++ (⟨#[79]⟩ : ByteArray)) (i - 1) a sd zO (by omega) (by omega) h0 (by omega)
        refine ⟨w', a', sd', Ev.step (fun k => ?_) hf, hz, by omega, by omega⟩
        simp only [spec_l1Cur_word.l0, e2.out, e3.out, e5.out, c, c0, c1, z, ↓reduceIte]
theorem word_ok {s : List Int} (hs : Bytes s) (a sd n : Int) (h0 : 0 ≤ a) (h1 : a ≤ 1000) (hn : 0 ≤ n ∧ n ≤ 100) : ∃ w a' sd', Ev (fun k => spec_l1Cur_word.f k s a sd n) (w, a', sd') ∧ w.size ≤ 300 ∧ a ≤ a' ∧ a' ≤ a + 500 := by
  obtain ⟨w, a', sd', hf, z, p, q⟩ := word_loop hs n hn (2 * n).toNat (⟨#[]⟩ : ByteArray) 0 a sd (by rw [show (⟨#[]⟩ : ByteArray).size = 0 from rfl]; omega) (by omega) (by omega) h0 (by omega)
  exact ⟨w, a', sd', hf, z, by omega, by omega⟩
theorem begun_j1 {s : List Int} (hs : Bytes s) (o : List Int) (a sd : Int) (ho : o.length ≤ 100) (h0 : 0 ≤ a) (h1 : a ≤ 500) : ∃ w a' sd', Ev (fun k => spec_l1Cur_begun.j1 k o s a sd) (o, w, a', sd') ∧ w.size ≤ 300 := by
  obtain ⟨w, a1, s1, hw, z, p1, q1⟩ := word_ok hs a sd (o.length : Int) h0 (by omega) (by omega)
  by_cases c : (w.size : Int) > 0
  · obtain ⟨b, a2, s2, e2, p2, q2⟩ := one_ok hs a1 s1 6 (by omega) (by omega)
    cases b with
    | true =>
      refine ⟨w, a2, s2, Ev.step (f := fun k => spec_l1Cur_begun.j1 (k + 1) o s a sd) (fun k => rfl) ?_, z⟩
      simp only [spec_l1Cur_begun.j1]
      refine Ev.bind hw ?_
      simp only [c, ↓reduceIte]
      refine Ev.bind (a := (true, a2, s2)) ⟨0, fun _ _ => e2⟩ ?_
      simp only [↓reduceIte]
      exact Ev.now _
    | false =>
      have ew := Aside0.mk (show wrap64 ((w.size : Int) + 1) = (w.size : Int) + 1 from wr (by omega) (by omega))
      obtain ⟨i, a3, s3, e3, i0, i1, p3, q3⟩ := pick_ok hs a2 s2 ((w.size : Int) + 1) (by omega) (by omega)
      have ci : i ≤ (w.size : Int) := by rcases i1 with h | h <;> omega
      have zt := (size_to w i.toNat).2
      refine ⟨w.extract 0 i.toNat, a3, s3, Ev.step (f := fun k => spec_l1Cur_begun.j1 (k + 1) o s a sd) (fun k => rfl) ?_, by omega⟩
      simp only [spec_l1Cur_begun.j1]
      refine Ev.bind hw ?_
      simp only [c, ↓reduceIte]
      refine Ev.bind (a := (false, a2, s2)) ⟨0, fun _ _ => e2⟩ ?_
      simp only [Bool.false_eq_true, ew.out, ↓reduceIte]
      refine Ev.bind (a := (i, a3, s3)) ⟨0, fun _ _ => e3⟩ ?_
      simp only [i0, ci, ↓reduceIte]
      exact Ev.now _
  · refine ⟨w, a1, s1, Ev.step (f := fun k => spec_l1Cur_begun.j1 (k + 1) o s a sd) (fun k => rfl) ?_, z⟩
    simp only [spec_l1Cur_begun.j1]
    refine Ev.bind hw ?_
    simp only [c, ↓reduceIte]
    exact Ev.now _
theorem begun_j0 {s : List Int} (hs : Bytes s) (o : List Int) (b : Bool) (a sd : Int) (ho : o.length ≤ 100) (h0 : 0 ≤ a) (h1 : a ≤ 500) : ∃ o' w a' sd', Ev (fun k => spec_l1Cur_begun.j0 k o b s a sd) (o', w, a', sd') ∧ o'.length ≤ 100 ∧ w.size ≤ 300 := by
  cases b with
  | true =>
    obtain ⟨w, a', sd', hw, z⟩ := begun_j1 hs [4, 1, 5, 2, 3] a sd (by decide) h0 h1
    exact ⟨_, w, a', sd', Ev.step (fun k => by simp only [spec_l1Cur_begun.j0, ↓reduceIte]) hw, by decide, z⟩
  | false =>
    obtain ⟨w, a', sd', hw, z⟩ := begun_j1 hs o a sd ho h0 h1
    exact ⟨_, w, a', sd', Ev.step (fun k => by simp only [spec_l1Cur_begun.j0, Bool.false_eq_true, ↓reduceIte]) hw, ho, z⟩
theorem begun_ok {s : List Int} (hs : Bytes s) : ∃ o w a' sd', Ev (fun k => spec_l1Cur_begun.f k s 0 0) (o, w, a', sd') ∧ o.length ≤ 100 ∧ w.size ≤ 300 := by
  obtain ⟨o, a1, s1, ho, z, p1, q1⟩ := order_ok hs 0 0 (by omega) (by omega)
  unfold spec_l1Cur_begun.f
  by_cases c : (o.length : Int) > 5
  · obtain ⟨b, a2, s2, e2, p2, q2⟩ := one_ok hs a1 s1 8 (by omega) (by omega)
    obtain ⟨o', w, a', sd', hf, z1, z2⟩ := begun_j0 hs o (!b) a2 s2 z (by omega) (by omega)
    refine ⟨o', w, a', sd', Ev.bind ho ?_, z1, z2⟩
    simp only [c, ↓reduceIte]
    exact Ev.bind (a := (b, a2, s2)) ⟨0, fun _ _ => e2⟩ hf
  · obtain ⟨o', w, a', sd', hf, z1, z2⟩ := begun_j0 hs o false a1 s1 z (by omega) (by omega)
    refine ⟨o', w, a', sd', Ev.bind ho ?_, z1, z2⟩
    simp only [c, ↓reduceIte]
    exact hf
theorem ev_one {α : Type} {g : Nat → Option α} {a b : α} (h1 : Ev g a) (h2 : Ev g b) : a = b := by
  obtain ⟨k1, h1⟩ := h1
  obtain ⟨k2, h2⟩ := h2
  have e1 := h1 (k1 + k2) (by omega)
  have e2 := h2 (k1 + k2) (by omega)
  rw [e1] at e2
  exact Option.some.inj e2
theorem draw_duel {s : List Int} (hs : Bytes s) : ∃ o w, Ev (fun k => spec_DrawDuelValue.f k s) (o, w) ∧ o.length ≤ 100 ∧ w.size ≤ 300 := by
  obtain ⟨o, w, a', sd', h, z1, z2⟩ := begun_ok hs
  refine ⟨o, w, ?_, z1, z2⟩
  unfold spec_DrawDuelValue.f spec_DrawStackAfter.f
  exact Ev.bind (Ev.bind h (Ev.now _)) (Ev.now _)
theorem draw_next {s : List Int} (hs : Bytes s) : ∃ n w, Ev (fun k => spec_DrawNextSigns.f k s) (n, w) ∧ w.size ≤ 300 := by
  obtain ⟨n, a1, s1, e1, hn, p1, q1⟩ := among_ok hs 0 0 ([4, 5, 3, 2, 6, 1, 0, 7] : List Int) (by omega) (by omega) (by decide)
  have hn2 : 0 ≤ n ∧ n ≤ 7 := (by decide : ∀ v ∈ ([4, 5, 3, 2, 6, 1, 0, 7] : List Int), 0 ≤ v ∧ v ≤ 7) n hn
  obtain ⟨w, a2, s2, hw, z, p2, q2⟩ := word_ok hs a1 s1 n (by omega) (by omega) (by omega)
  unfold spec_DrawNextSigns.f spec_DrawIsBeginning.f
  by_cases c : (w.size : Int) > 0
  · have ew := Aside0.mk (show wrap64 ((w.size : Int) + 1) = (w.size : Int) + 1 from wr (by omega) (by omega))
    obtain ⟨i, a3, s3, e3, i0, i1, p3, q3⟩ := pick_ok hs a2 s2 ((w.size : Int) + 1) (by omega) (by omega)
    have ci : i ≤ (w.size : Int) := by rcases i1 with h | h <;> omega
    have zt := (size_to w i.toNat).2
    refine ⟨n, w.extract 0 i.toNat, Ev.bind (a := (n, w.extract 0 i.toNat)) ?_ (Ev.now _), by omega⟩
    refine Ev.bind (a := (n, a1, s1)) ⟨0, fun _ _ => e1⟩ ?_
    refine Ev.bind hw ?_
    simp only [c, ew.out, ↓reduceIte]
    refine Ev.bind (a := (i, a3, s3)) ⟨0, fun _ _ => e3⟩ ?_
    simp only [i0, ci, ↓reduceIte]
    exact Ev.now _
  · refine ⟨n, w, Ev.bind (a := (n, w)) ?_ (Ev.now _), z⟩
    refine Ev.bind (a := (n, a1, s1)) ⟨0, fun _ _ => e1⟩ ?_
    refine Ev.bind hw ?_
    simp only [c, ↓reduceIte]
    exact Ev.now _
theorem ev_rInts (l : List Int) (hl : l.length ≤ 1048576) : Ev (fun k => laws_rInts.f k l l) true := by
  have go : ∀ (m j : Nat), j + m = l.length → Ev (fun k => laws_rInts.l0 k l l (j : Int)) true := by
    intro m
    induction m with
    | zero =>
      intro j hj
      have c : ¬ (j : Int) < (l.length : Int) := by omega
      exact Ev.step (f := fun _ => some true) (fun k => by simp only [laws_rInts.l0, c, ↓reduceIte]) (Ev.now _)
    | succ m ih =>
      intro j hj
      have c : (j : Int) < (l.length : Int) := by omega
      have c0 : 0 ≤ (j : Int) := by omega
      have e3 := Aside0.mk (show wrap64 ((j : Int) + 1) = ((j + 1 : Nat) : Int) from wj (by omega))
      exact Ev.step (fun k => by simp only [laws_rInts.l0, c, c0, e3.out, ↓reduceIte]) (ih (j + 1) (by omega))
  unfold laws_rInts.f
  simp only [↓reduceIte]
  exact go l.length 0 (by omega)
theorem ev_NextSigns (n : Int) (s : ByteArray) (hs : s.size ≤ 1000) : ∃ r : ByteArray, Ev (fun k => impl_NextSigns.f k n s) (r, isBeg n s) ∧ Ev (fun k => spec_NextSigns.f k n s) (r, isBeg n s) ∧ (∀ p q, isBeg n s = true → beg n (bs s) 0 0 = some (p, q) → r = signs n p q) := by
  unfold impl_NextSigns.f spec_NextSigns.f
  cases h : isBeg n s with
  | false =>
    have h1 := ev_isBeginning n s (by omega)
    have h2 := ev_specIsBeginning n s (by omega)
    rw [h] at h1 h2
    refine ⟨(⟨#[]⟩ : ByteArray), Ev.bind h1 ?_, Ev.bind h2 ?_, fun _ _ h => absurd h Bool.false_ne_true⟩
    · simp only [Bool.false_eq_true, ↓reduceIte]
      exact Ev.now _
    · simp only [Bool.false_eq_true, ↓reduceIte]
      exact Ev.now _
  | true =>
    have h1 := ev_isBeginning n s (by omega)
    have h2 := ev_specIsBeginning n s (by omega)
    rw [h] at h1 h2
    have hh := h
    unfold isBeg at hh
    simp only [Bool.and_eq_true] at hh
    obtain ⟨⟨p, q⟩, hb⟩ := Option.isSome_iff_exists.1 hh.2
    refine ⟨signs n p q, Ev.bind h1 ?_, Ev.bind h2 ?_, fun p' q' _ hb' => ?_⟩
    · simp only [↓reduceIte]
      exact Ev.bind (ev_nextSigns n s (by omega) p q h hb) (Ev.now _)
    · simp only [↓reduceIte]
      exact Ev.bind (ev_l11Signs n s (by omega) p q h hb) (Ev.now _)
    · rw [hb] at hb'
      obtain ⟨rfl, rfl⟩ := Prod.mk.inj (Option.some.inj hb')
      rfl
theorem lp_ge (G : Int → Int) : ∀ (L : List Int) (f : Bool) (b : Int), (f = false → b ≤ lp G L f b) ∧ ∀ c ∈ L, G c ≤ lp G L f b
  | [], f, b => ⟨fun _ => Int.le_refl _, fun c h => absurd h (by simp)⟩
  | c :: t, f, b => by
    have ih := lp_ge G t false (if f = true ∨ G c > b then G c else b)
    simp only [lp]
    have h0 := ih.1 rfl
    refine ⟨fun hf => ?_, fun x hx => ?_⟩
    · rw [hf] at h0 ⊢
      refine Int.le_trans ?_ h0
      simp only [Bool.false_eq_true, false_or]
      split <;> omega
    · rcases List.mem_cons.1 hx with rfl | hx
      · refine Int.le_trans ?_ h0
        split
        · exact Int.le_refl _
        · rename_i hn
          have : ¬ G x > b := fun h => hn (.inr h)
          omega
      · exact ih.2 x hx
theorem sg_inj {a b : Int} (ha : a = 73 ∨ a = 79) (hb : b = 73 ∨ b = 79) (h : sg a = sg b) : a = b := by
  have := congrArg bs h
  rw [sg_bs ha, sg_bs hb] at this
  exact (List.cons.inj this).1
theorem sg_eq79 {c : Int} (hc : c = 73 ∨ c = 79) : (sg c).toList = ([79] : List UInt8) ↔ c = 79 := by
  rcases hc with rfl | rfl
  · exact ⟨fun h => absurd h (by decide +kernel), fun h => absurd h (by decide)⟩
  · exact ⟨fun _ => rfl, fun _ => by decide +kernel⟩
theorem toList_sg {a b : Int} (ha : a = 73 ∨ a = 79) (hb : b = 73 ∨ b = 79) : (sg a).toList = (sg b).toList ↔ a = b := by
  constructor
  · intro h
    rcases ha with rfl | rfl <;> rcases hb with rfl | rfl
    · rfl
    · exact absurd h (by decide +kernel)
    · exact absurd h (by decide +kernel)
    · rfl
  · intro h
    rw [h]
theorem toList_sgb {a b : Int} (ha : a = 73 ∨ a = 79) (hb : b = 73 ∨ b = 79) : ((sg a).toList == (sg b).toList) = decide (a = b) := by
  rw [Bool.eq_iff_iff, beq_iff_eq, decide_eq_true_iff]
  exact toList_sg ha hb
theorem FnDuels : laws_FnDuels.Pure := by
  intro s hl1 hl2 hwf
  have hs := bytes_of hwf
  refine Ev.rounds (g := fun k => laws_FnDuels.f k s) ?_
  unfold laws_FnDuels.f
  refine Ev.bind (a := decide ((s.length : Int) > 65536)) ⟨0, fun _ _ => rfl⟩ ?_
  by_cases hbig : (s.length : Int) > 65536
  · simp only [hbig, decide_true, ↓reduceIte]
    exact Ev.now _
  · simp only [hbig, decide_false, Bool.false_eq_true, ↓reduceIte]
    obtain ⟨o, so, hd, zo, zs⟩ := draw_duel hs
    refine Ev.bind hd (Ev.bind (ev_DuelValue o so (by omega)) (Ev.bind (ev_specDuelValue o so (by omega)) ?_))
    simp only [bne_self_eq_false, ↓reduceIte]
    -- the flags are all one
    obtain ⟨V, hV⟩ : ∃ V, V = (if duelB o so = true then (vl o 14 so, true) else (0, false)) := ⟨_, rfl⟩
    obtain ⟨Bs, hB⟩ : ∃ B, B = (if duelB o so = true then (bestB o so, true) else ((⟨#[]⟩ : ByteArray), false)) := ⟨_, rfl⟩
    have v2 : V.2 = duelB o so := by rw [hV]; cases duelB o so <;> rfl
    have b2 : Bs.2 = duelB o so := by rw [hB]; cases duelB o so <;> rfl
    obtain ⟨st, sb, zst, hs1, hs2⟩ := both_StackAfter o so (by omega)
    have hsb : sb = duelB o so ∧ (duelB o so = true → st = (stk (bs so) o [] 0).1) := by
      have h1 := ev_isDuel o so (by omega)
      cases hb : duelB o so with
      | false =>
        rw [hb] at h1
        have : Ev (fun k => impl_StackAfter.f k o so) ([], false) := by
          unfold impl_StackAfter.f
          refine Ev.bind h1 ?_
          simp only [Bool.false_eq_true, ↓reduceIte]
          exact Ev.now _
        have e := ev_one hs2 this
        exact ⟨(Prod.mk.inj e).2, fun h => absurd h Bool.false_ne_true⟩
      | true =>
        have h3 := ev_stackAfter o so hb (by omega)
        rw [hb] at h1
        have : Ev (fun k => impl_StackAfter.f k o so) ((stk (bs so) o [] 0).1, true) := by
          unfold impl_StackAfter.f
          refine Ev.bind h1 ?_
          simp only [↓reduceIte]
          exact Ev.bind h3 (Ev.now _)
        have e := ev_one hs2 this
        exact ⟨(Prod.mk.inj e).2, fun _ => (Prod.mk.inj e).1⟩
    obtain ⟨hsb, hst⟩ := hsb
    obtain ⟨wr_, hw1, hw2, hw3, hw4, hw5⟩ := worst_told o so (by omega)
    obtain ⟨m, t, hn, zt⟩ := draw_next hs
    obtain ⟨ns, hn1, hn2, _⟩ := ev_NextSigns m t (by omega)
    obtain ⟨⟨sc1, sc2, sc3⟩, hc1, hc2⟩ := both_ScoresOf o so (by omega)
    have hsc : sc3 = duelB o so := by
      have h1 := ev_isDuel o so (by omega)
      cases hb : duelB o so with
      | false =>
        rw [hb] at h1
        have : Ev (fun k => impl_ScoresOf.f k o so) (0, 0, false) := by
          unfold impl_ScoresOf.f
          refine Ev.bind h1 ?_
          simp only [Bool.false_eq_true, ↓reduceIte]
          exact Ev.now _
        have e := ev_one hc2 this
        exact congrArg (fun x => x.2.2) e
      | true =>
        rw [hb] at h1
        have h3 := ev_iscore o so hb so.size 0 0 0 (Nat.zero_add _)
        have zz : so.size ≤ 1048576 := by omega
        have : Ev (fun k => impl_ScoresOf.f k o so) ((scr o so so.size 0 0 0).1, (scr o so so.size 0 0 0).2, true) := by
          unfold impl_ScoresOf.f
          refine Ev.bind h1 ?_
          simp only [zz, ↓reduceIte]
          exact Ev.bind h3 (Ev.now _)
        have e := ev_one hc2 this
        exact congrArg (fun x => x.2.2) e
    rw [← hV]
    refine Ev.step (f := fun k => laws_FnDuels.j0 (k + 1) s o so V.1 V.2 false) (fun k => rfl) ?_
    simp only [laws_FnDuels.j0, Bool.false_eq_true, ↓reduceIte]
    have i1 := ev_implBest o so (by omega)
    have i2 := ev_specBest o so (by omega)
    rw [← hB] at i1 i2
    refine Ev.bind i1 (Ev.bind i2 ?_)
    simp only [bne_self_eq_false, b2, v2, Bool.false_eq_true, ↓reduceIte]
    refine Ev.step (f := fun k => laws_FnDuels.j1 (k + 1) s o so V.1 (duelB o so) Bs.1 false) (fun k => rfl) ?_
    simp only [laws_FnDuels.j1, Bool.false_eq_true, ↓reduceIte]
    refine Ev.bind hs2 (Ev.bind hs1 ?_)
    simp only [hsb, bne_self_eq_false, Bool.false_eq_true, ↓reduceIte]
    refine Ev.bind (ev_rInts st (by omega)) ?_
    simp only [Bool.not_true]
    refine Ev.step (f := fun k => laws_FnDuels.j2 (k + 1) s o so V.1 (duelB o so) Bs.1 st false) (fun k => rfl) ?_
    simp only [laws_FnDuels.j2, Bool.false_eq_true, ↓reduceIte]
    refine Ev.bind hw2 (Ev.bind hw1 ?_)
    have e2 := Aside0.mk (show wrap64 (2 * (o.length : Int)) = 2 * (o.length : Int) from wr (by omega) (by omega))
    have hneg : decide (wr_.2.1 < 0) = false := decide_eq_false (by omega)
    have key : ∀ r, Ev (fun k => laws_FnDuels.j3 k s o so V.1 (duelB o so) Bs.1 st wr_.1 wr_.2.1 false) r → Ev (fun k => (if wr_.1.toList = wr_.1.toList then (if wr_.2.1 = wr_.2.1 then (if (wr_.2.2 != wr_.2.2) = true then (laws_FnDuels.j3 k s o so V.1 (duelB o so) Bs.1 st wr_.1 wr_.2.1 true) else (if duelB o so = true then (if (wr_.2.2 != (decide ((so.size : Int) < (wrap64 (2 * (o.length : Int)))))) = true then (laws_FnDuels.j3 k s o so V.1 (duelB o so) Bs.1 st wr_.1 wr_.2.1 true) else (laws_FnDuels.j3 k s o so V.1 (duelB o so) Bs.1 st wr_.1 wr_.2.1 (decide (wr_.2.1 < 0)))) else (if (wr_.2.2 != false) = true then (laws_FnDuels.j3 k s o so V.1 (duelB o so) Bs.1 st wr_.1 wr_.2.1 true) else (laws_FnDuels.j3 k s o so V.1 (duelB o so) Bs.1 st wr_.1 wr_.2.1 (decide (wr_.2.1 < 0)))))) else (laws_FnDuels.j3 k s o so V.1 (duelB o so) Bs.1 st wr_.1 wr_.2.1 true)) else (laws_FnDuels.j3 k s o so V.1 (duelB o so) Bs.1 st wr_.1 wr_.2.1 true))) r := by
      intro r hr
      simp only [bne_self_eq_false, Bool.false_eq_true, e2.out, hneg, ↓reduceIte]
      cases hb : duelB o so with
      | true =>
        rw [hb] at hw3 hr
        rw [Bool.true_and] at hw3
        simp only [hw3, bne_self_eq_false, Bool.false_eq_true, ↓reduceIte]
        exact hr
      | false =>
        rw [hb] at hw3 hr
        rw [Bool.false_and] at hw3
        simp only [hw3, bne_self_eq_false, Bool.false_eq_true, ↓reduceIte]
        exact hr
    refine key _ ?_
    refine Ev.step (f := fun k => laws_FnDuels.j3 (k + 1) s o so V.1 (duelB o so) Bs.1 st wr_.1 wr_.2.1 false) (fun k => rfl) ?_
    simp only [laws_FnDuels.j3, Bool.false_eq_true, ↓reduceIte]
    refine Ev.bind hn (Ev.bind hn1 (Ev.bind hn2 ?_))
    simp only [bne_self_eq_false, Bool.false_eq_true, ↓reduceIte]
    refine Ev.bind (a := isBeg m t) (by unfold impl_IsBeginning.f; exact Ev.bind (ev_isBeginning m t (by omega)) (Ev.now _)) ?_
    simp only [bne_self_eq_false]
    refine Ev.step (f := fun k => laws_FnDuels.j4 (k + 1) o so V.1 (duelB o so) Bs.1 st wr_.1 wr_.2.1 false) (fun k => rfl) ?_
    simp only [laws_FnDuels.j4, Bool.false_eq_true, ↓reduceIte]
    refine Ev.bind hc2 (Ev.bind hc1 ?_)
    simp only [beq_self_eq_true, Bool.not_true, Bool.or_false, bne_self_eq_false, hsc, Bool.false_eq_true, ↓reduceIte]
    refine Ev.step (f := fun k => laws_FnDuels.j5 (k + 1) o so V.1 (duelB o so) Bs.1 st wr_.1 wr_.2.1 false) (fun k => rfl) ?_
    simp only [laws_FnDuels.j5, Bool.false_eq_true, ↓reduceIte]
    cases hb : duelB o so with
    | false =>
      simp only [Bool.false_eq_true, ↓reduceIte]
      exact Ev.now _
    | true =>
      rw [hb] at hw3
      have hst := hst hb
      obtain ⟨h0, h1, h6, hl, p, q, hbeg⟩ := duelB_facts hb
      have hbb := isBeg_of hb
      obtain ⟨sn, hsn1, _, hsn2⟩ := ev_NextSigns (o.length : Int) so (by omega)
      rw [hbb] at hsn1
      have hsn := hsn2 p q hbb hbeg
      subst hsn
      have hV1 : V.1 = vl o 14 so := by rw [hV, hb]; rfl
      have hB1 : Bs.1 = bestB o so := by rw [hB, hb]; rfl
      have hveq := vl_eq hb hbeg
      have bsB := bestB_bs hbeg
      have b0 := beg_bounds (o.length : Int) (bs so) 0 0 p q (by omega) (by omega) hbeg
      rw [bs_length] at b0
      have zsg : (signs (o.length : Int) p q).size = (sl (o.length : Int) p q).length := signs_length _ _ _
      have zB : (bestB o so).size = ((sl (o.length : Int) p q).filter fun c => decide (gv o (vl o 14) so c = vl o 14 so)).length := by rw [← bs_length, bsB]
      have hle : (bestB o so).size ≤ (signs (o.length : Int) p q).size := by rw [zB, zsg]; exact List.length_filter_le _ _
      have hl2 := sl_len (o.length : Int) p q
      simp only [↓reduceIte]
      refine Ev.bind hsn1 ?_
      have hzero : (((signs (o.length : Int) p q).size : Int) == 0) = (((bestB o so).size : Int) == 0) := by
        rw [Bool.eq_iff_iff, beq_iff_eq, beq_iff_eq]
        constructor
        · intro h; omega
        · intro h
          have hnil : bs (bestB o so) = [] := List.length_eq_zero_iff.1 (by rw [bs_length]; omega)
          by_cases hne : p < (o.length : Int) ∨ q < p
          · exact absurd hnil (best_ne hb hbeg hne)
          · rw [zsg]
            have e1 : ¬ p < (o.length : Int) := fun h => hne (.inl h)
            have e2 : ¬ q < p := fun h => hne (.inr h)
            unfold sl
            rw [if_neg e1, if_neg e2]
            rfl
      have hgt : decide (((bestB o so).size : Int) > ((signs (o.length : Int) p q).size : Int)) = false := decide_eq_false (by omega)
      rw [hV1, hB1]
      simp only [hzero, bne_self_eq_false, hgt, Bool.false_eq_true, ↓reduceIte]
      refine Ev.step (f := fun k => laws_FnDuels.j6 (k + 1) o so (vl o 14 so) (bestB o so) st wr_.1 wr_.2.1 (signs (o.length : Int) p q) false) (fun k => rfl) ?_
      simp only [laws_FnDuels.j6, Bool.false_eq_true, ↓reduceIte]
      have hG : ∀ c, -1000 ≤ gv o (vl o 14) so c ∧ gv o (vl o 14) so c ≤ 1000 := fun c => by
        have := gv_bound h0 (vl o 14) 98 (by decide) so c (fun s => by have := vl_bound h0 14 (by decide) s; omega)
        omega
      have hvb := vl_bound h0 14 (by decide) so
      have hst7 : ∀ x ∈ (stk (bs so) o [] 0).1, 0 ≤ x ∧ x ≤ 7 := stk_bound _ _ _ _ (fun x hx => by
        have h7 := (ordB_len h0).2
        have := ordB_range h0 x hx
        omega) (fun x hx => absurd hx (by simp))
      have hlast := last_bound hst7
      have hhigh := stk_high (o.length : Int) (bs so) o [] 0 0 0 p q hbeg (by simp)
      -- the signs, one by one
      have loop : ∀ (d i : Nat), i + d = (sl (o.length : Int) p q).length → Ev (fun k => laws_FnDuels.l0 k o so (vl o 14 so) (bestB o so) st wr_.1 wr_.2.1 (signs (o.length : Int) p q) (i : Int)) true := by
        intro d
        induction d with
        | zero =>
          intro i hi
          have c : ¬ (i : Int) < ((signs (o.length : Int) p q).size : Int) := by omega
          exact Ev.step (f := fun _ => some true) (fun k => by simp only [laws_FnDuels.l0, c, ↓reduceIte]) (Ev.now _)
        | succ d ih =>
          intro i hi
          have hij : i < (sl (o.length : Int) p q).length := by omega
          have c : (i : Int) < ((signs (o.length : Int) p q).size : Int) := by omega
          have c0 : 0 ≤ (i : Int) := by omega
          have ei := Aside0.mk (show wrap64 ((i : Int) + 1) = ((i + 1 : Nat) : Int) from wj (by omega))
          have ci1 : (i : Int) ≤ ((i + 1 : Nat) : Int) := by omega
          have ci2 : ((i + 1 : Nat) : Int) ≤ ((signs (o.length : Int) p q).size : Int) := by omega
          obtain ⟨x, hx⟩ : ∃ x, x = (sl (o.length : Int) p q)[i]'hij := ⟨_, rfl⟩
          have hxm : x ∈ sl (o.length : Int) p q := by rw [hx]; exact List.getElem_mem _
          have hxs : x = 73 ∨ x = 79 := sl_sign x hxm
          have hcut : (signs (o.length : Int) p q).extract ((i : Int)).toNat (((i + 1 : Nat) : Int)).toNat = sg x := by
            rw [Int.toNat_natCast, Int.toNat_natCast, hx]
            exact signs_cut _ _ _ i hij
          have hstep := duel_step hb hbeg hxm
          have hdv := ev_DuelValue o (so ++ sg x) (by rw [size_append, sg_size]; omega)
          rw [if_pos hstep] at hdv
          have cz : so.size + (sg x).size ≤ 9223372036854775807 := by rw [sg_size]; omega
          -- what the sign gets
          have hgv := hG x
          have hvb2 := vl_bound h0 14 (by decide) (so ++ sg x)
          obtain ⟨got, hgot⟩ : ∃ got, got = (if x = 79 then (stk (bs so) o [] 0).1.getLastD 0 else 0) := ⟨_, rfl⟩
          have hgotb : 0 ≤ got ∧ got ≤ 7 := by rw [hgot]; split <;> omega
          have hgx : gv o (vl o 14) so x = got - vl o 14 (so ++ sg x) := by
            show wrap64 ((if x = 79 then (stk (bs so) o [] 0).1.getLastD 0 else 0) - vl o 14 (so ++ sg x)) = _
            rw [← hgot]
            exact wr (by omega) (by omega)
          have hmax := (lp_ge (gv o (vl o 14) so) (sl (o.length : Int) p q) true 0).2 x hxm
          rw [← hveq] at hmax
          have ew1 := Aside0.mk (show wrap64 (got - vl o 14 (so ++ sg x)) = gv o (vl o 14) so x from by rw [hgx]; exact wr (by omega) (by omega))
          have ew2 := Aside0.mk (show wrap64 ((wrap64 (vl o 14 so - got)) + vl o 14 (so ++ sg x)) = vl o 14 so - gv o (vl o 14) so x from by rw [wr (i := vl o 14 so - got) (by omega) (by omega), wr (by omega) (by omega), hgx]; omega)
          have hnot : decide (gv o (vl o 14) so x > vl o 14 so) = false := decide_eq_false (by omega)
          -- behind the sign's value
          have tail : Ev (fun k => laws_FnDuels.j8 k o so (vl o 14 so) (bestB o so) st wr_.1 wr_.2.1 (signs (o.length : Int) p q) (i : Int) (sg x) got) true := by
            refine Ev.step (f := fun k => laws_FnDuels.j8 (k + 1) o so (vl o 14 so) (bestB o so) st wr_.1 wr_.2.1 (signs (o.length : Int) p q) (i : Int) (sg x) got) (fun k => rfl) ?_
            simp only [laws_FnDuels.j8, cz, ↓reduceIte]
            refine Ev.bind hdv ?_
            simp only [ew1.out, hnot, ↓reduceIte]
            refine Ev.step (f := fun k => laws_FnDuels.j9 (k + 1) o so (vl o 14 so) (bestB o so) st wr_.1 wr_.2.1 (signs (o.length : Int) p q) (i : Int) (sg x) got (vl o 14 (so ++ sg x)) false) (fun k => rfl) ?_
            simp only [laws_FnDuels.j9, Bool.false_eq_true, ↓reduceIte]
            have hBsz : (bestB o so).size ≤ 2 := bestB_size o so
            have hBc : ∀ c ∈ bs (bestB o so), c = 73 ∨ c = 79 := fun c hc => sl_sign c (best_mem hbeg hc)
            have inner : ∀ (e j : Nat) (g : Bool), j + e = (bestB o so).size → g = decide (x ∈ (bs (bestB o so)).take j) → Ev (fun k => laws_FnDuels.l1 k o so (vl o 14 so) (bestB o so) st wr_.1 wr_.2.1 (signs (o.length : Int) p q) (i : Int) (sg x) got (vl o 14 (so ++ sg x)) g (j : Int)) true := by
              intro e
              induction e with
              | zero =>
                intro j g hj hg
                have c : ¬ (j : Int) < ((bestB o so).size : Int) := by omega
                rw [List.take_of_length_le (by rw [bs_length]; omega), bsB] at hg
                have hgood : g = (gv o (vl o 14) so x == vl o 14 so) := by
                  rw [hg, Bool.eq_iff_iff, decide_eq_true_iff, beq_iff_eq, List.mem_filter, decide_eq_true_iff]
                  exact ⟨fun h => h.2, fun h => ⟨hxm, h⟩⟩
                refine Ev.step (f := fun k => laws_FnDuels.l1 (k + 1) o so (vl o 14 so) (bestB o so) st wr_.1 wr_.2.1 (signs (o.length : Int) p q) (i : Int) (sg x) got (vl o 14 (so ++ sg x)) g (j : Int)) (fun k => rfl) ?_
                simp only [laws_FnDuels.l1, c, ew1.out, ew2.out, ei.out, ← hgood, bne_self_eq_false, Bool.false_eq_true, ↓reduceIte]
                by_cases hwx : (sg x).toList = wr_.1.toList
                · have hlt : wr_.2.2 = true := by
                    rw [hw3, Bool.true_and]
                    refine decide_eq_true ?_
                    have : (so ++ sg x).size ≤ 2 * o.length := by have := (duelB_facts hstep).2.2.2.1; omega
                    rw [size_append, sg_size] at this
                    omega
                  obtain ⟨c0', hc0, hr1, hr2⟩ := hw5 hlt
                  rw [hr1] at hwx
                  have hxc := (toList_sg hxs hc0).1 hwx
                  subst hxc
                  have hfin : vl o 14 so - gv o (vl o 14) so x = wr_.2.1 := hr2.symm
                  rw [hr1]
                  simp only [hfin, ↓reduceIte]
                  have := ih (i + 1) (by omega)
                  rw [hr1] at this
                  exact this
                · simp only [hwx, ↓reduceIte]
                  exact ih (i + 1) (by omega)
              | succ e ihe =>
                intro j g hj hg
                have hjb : j < (bs (bestB o so)).length := by rw [bs_length]; omega
                have c : (j : Int) < ((bestB o so).size : Int) := by omega
                have c0 : 0 ≤ (j : Int) := by omega
                have ej := Aside0.mk (show wrap64 ((j : Int) + 1) = ((j + 1 : Nat) : Int) from wj (by omega))
                have cj1 : (j : Int) ≤ ((j + 1 : Nat) : Int) := by omega
                have cj2 : ((j + 1 : Nat) : Int) ≤ ((bestB o so).size : Int) := by omega
                have hcj : (bestB o so).extract ((j : Int)).toNat (((j + 1 : Nat) : Int)).toNat = sg ((bs (bestB o so))[j]'hjb) := by
                  rw [Int.toNat_natCast, Int.toNat_natCast]
                  exact cut_sg _ j hjb hBc
                have htk : (bs (bestB o so)).take (j + 1) = (bs (bestB o so)).take j ++ [(bs (bestB o so))[j]'hjb] := (List.take_append_getElem hjb).symm
                cases g with
                | true =>
                  refine Ev.step (fun k => ?_) (ihe (j + 1) true (by omega) ?_)
                  · simp only [laws_FnDuels.l1, c, ej.out, ↓reduceIte]
                  · symm
                    refine decide_eq_true ?_
                    rw [htk]
                    exact List.mem_append_left _ (of_decide_eq_true hg.symm)
                | false =>
                  refine Ev.step (fun k => ?_) (ihe (j + 1) (decide ((bs (bestB o so))[j]'hjb = x)) (by omega) ?_)
                  · simp only [laws_FnDuels.l1, c, c0, ej.out, cj1, cj2, hcj, toList_sgb (hBc _ (List.getElem_mem hjb)) hxs, Bool.false_eq_true, ↓reduceIte]
                  · have hnm : ¬ x ∈ (bs (bestB o so)).take j := of_decide_eq_false hg.symm
                    rw [Bool.eq_iff_iff, decide_eq_true_iff, decide_eq_true_iff, htk, List.mem_append, List.mem_singleton]
                    exact ⟨fun h => .inr h.symm, fun h => h.elim (fun h => absurd h hnm) (fun h => h.symm)⟩
            exact inner (bestB o so).size 0 false (Nat.zero_add _) (by rw [List.take_zero]; rfl)
          refine Ev.step (f := fun k => laws_FnDuels.l0 (k + 1) o so (vl o 14 so) (bestB o so) st wr_.1 wr_.2.1 (signs (o.length : Int) p q) (i : Int)) (fun k => rfl) ?_
          simp only [laws_FnDuels.l0, c, c0, ei.out, ci1, ci2, hcut, ↓reduceIte]
          by_cases h79 : x = 79
          · have hlist : (sg x).toList = ([79] : List UInt8) := (sg_eq79 hxs).2 h79
            have hq : q < p := by
              rcases sl_mem hxm with ⟨e, _⟩ | ⟨_, h⟩
              · omega
              · exact h
            have hlen : 0 < st.length := by rw [hst]; omega
            have hstl : st.length ≤ 1048576 := zst
            have em := Aside0.mk (show wrap64 ((st.length : Int) - 1) = (st.length : Int) - 1 from wr (by omega) (by omega))
            have cm0 : 0 ≤ (st.length : Int) - 1 := by omega
            have cm1 : (st.length : Int) - 1 < (st.length : Int) := by omega
            have hrd : rd st ((st.length : Int) - 1) = got := by
              rw [hgot, if_pos h79, hst]
              have hlen' : 0 < (stk (bs so) o [] 0).1.length := by rw [← hst]; exact hlen
              rw [show (((stk (bs so) o [] 0).1.length : Int) - 1) = (((stk (bs so) o [] 0).1.length - 1 : Nat) : Int) by omega, rd_nat]
              generalize (stk (bs so) o [] 0).1 = L at hlen'
              rw [List.getLastD_eq_getLast?, List.getLast?_eq_getElem?, List.getD_eq_getElem?_getD]
            simp only [hlist, em.out, cm0, cm1, hrd, ↓reduceIte]
            exact tail
          · have hlist : ¬ (sg x).toList = ([79] : List UInt8) := fun h => h79 ((sg_eq79 hxs).1 h)
            have : got = 0 := by rw [hgot, if_neg h79]
            rw [this] at tail
            simp only [hlist, ↓reduceIte]
            exact tail
      exact loop _ 0 (Nat.zero_add _)

end Go.Proofs.Ytnoapomobflknaa.Pure
