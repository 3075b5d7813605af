/- FnDuelWords: what whole words tell of a duel holds together, and the program and the reference tell the same. -/
import Derived.Test.YtnoapomobflknaaZwXw16
import Derived.Test.YtnoapomobflknaaZwXwHduel
import Derived.Test.YtnoapomobflknaaZwXwHspecval
import Derived.Test.YtnoapomobflknaaZwXwHbest
import Derived.Test.YtnoapomobflknaaZwXwHdword
import Derived.Test.YtnoapomobflknaaZwXwHsclone
import Derived.Test.YtnoapomobflknaaZwXwHscores
import Derived.Test.YtnoapomobflknaaZwXwHwords
import Derived.Test.YtnoapomobflknaaZwXwHbduel
import Derived.Test.YtnoapomobflknaaZwXwHfar
import Derived.Test.YtnoapomobflknaaZwXw10
import Derived.Test.YtnoapomobflknaaZwXw15
import Derived.Test.YtnoapomobflknaaZwXw13
import Derived.Test.YtnoapomobflknaaZwXw12
import Derived.Test.YtnoapomobflknaaZwXw1
import Derived.Test.YtnoapomobflknaaZwXw2
import Derived.Test.YtnoapomobflknaaZwXwHdelete
import Derived.Test.YtnoapomobflknaaZwXw3
import Derived.Test.YtnoapomobflknaaZwXw7
import Derived.Test.YtnoapomobflknaaZwXw9
import Derived.Test.YtnoapomobflknaaZwXw14
import Derived.Test.YtnoapomobflknaaZwXw8
import Derived.Test.YtnoapomobflknaaZwXw4
import Derived.Test.YtnoapomobflknaaZwXw5
import Derived.Test.YtnoapomobflknaaZwXw6
import Derived.Test.YtnoapomobflknaaZwXwHspoilt
import Derived.Test.YtnoapomobflknaaZwXw11
import Derived.Test.YtnoapomobflknaaZwPk
import Derived.Laws.BitsLemmas
import Derived.OpenShut
set_option linter.unusedVariables false
set_option linter.unusedSimpArgs false
namespace Go.Proofs.Ytnoapomobflknaa.Pure
open Go.RowKit Go.Proofs.Ytnoapomobflknaa.Xw Go.Proofs.YtnoapomobflknaaW.PrintWords Go.Proofs.YtnoapomobflknaaW.PrintLast Go.Proofs.Ytnoapomobflknaa.Pk

theorem ev_l1In' (a b c : Int) : spec_l1In.f a b c = some (decide (b ≤ a) && decide (a ≤ c)) := by
  unfold spec_l1In.f
  by_cases h : b ≤ a
  · rw [if_pos h, decide_eq_true h, Bool.true_and]
  · rw [if_neg h, decide_eq_false h, Bool.false_and]
/-! ### is a list an order? -/
theorem ev_l1Has_l0 (l : List Int) (x : Int) (hl : l.length < 9223372036854775807) (d : Nat) : ∀ j : Nat, j + d = l.length → Ev (fun k => spec_l1Has.l0 k l x (j : Int)) ((l.drop j).contains x) := by
  induction d with
  | zero =>
    intro j hj
    have c : ¬ (j : Int) < (l.length : Int) := by omega
    rw [List.drop_of_length_le (by omega)]
    exact Ev.step (fun k => by simp only [spec_l1Has.l0, c, ↓reduceIte] <;> rfl) (Ev.now _)
  | succ d ih =>
    intro j hj
    have c : (j : Int) < (l.length : Int) := by omega
    have c0 : 0 ≤ (j : Int) := by omega
    have e1 : wrap64 ((j : Int) + 1) = ((j + 1 : Nat) : Int) := wj (by omega)
    rw [rd_drop l j (by omega), List.contains_cons]
    by_cases h : rd l (j : Int) = x
    · have : (x == rd l (j : Int)) = true := by rw [h]; exact beq_self_eq_true x
      rw [this, Bool.true_or]
      exact Ev.step (fun k => by simp only [spec_l1Has.l0, c, c0, h, ↓reduceIte] <;> rfl) (Ev.now _)
    · have : (x == rd l (j : Int)) = false := beq_eq_false_iff_ne.2 (fun e => h e.symm)
      rw [this, Bool.false_or]
      exact Ev.step (fun k => by simp only [spec_l1Has.l0, c, c0, h, e1, ↓reduceIte]) (ih (j + 1) (by omega))
theorem ev_l1Has (l : List Int) (x : Int) (hl : l.length < 9223372036854775807) : Ev (fun k => spec_l1Has.f k l x) (l.contains x) := by
  have := ev_l1Has_l0 l x hl l.length 0 (by omega)
  rw [List.drop_zero] at this
  exact this
theorem ev_l2Order_l0 (l : List Int) (hl : l.length ≤ 7) (d : Nat) : ∀ j : Nat, j + d = l.length → Ev (fun k => spec_l2Order.l0 k l (j : Int)) (chk l.length (l.take j) (l.drop j)) := by
  induction d with
  | zero =>
    intro j hj
    have c : ¬ (j : Int) < (l.length : Int) := by omega
    rw [List.drop_of_length_le (by omega)]
    exact Ev.step (fun k => by simp only [spec_l2Order.l0, c, ↓reduceIte] <;> rfl) (Ev.now _)
  | succ d ih =>
    intro j hj
    have c : (j : Int) < (l.length : Int) := by omega
    have c0 : 0 ≤ (j : Int) := by omega
    have c1 : (j : Int) ≤ (l.length : Int) := by omega
    have e1 : wrap64 ((j : Int) + 1) = ((j + 1 : Nat) : Int) := wj (by omega)
    rw [rd_drop l j (by omega), chk, ← take_succ l j (by omega)]
    by_cases h : (decide (1 ≤ rd l (j : Int)) && decide (rd l (j : Int) ≤ (l.length : Int))) = true
    · rw [h, Bool.true_and]
      refine Ev.step (f := fun k => (spec_l1Has.f k (l.take j) (rd l (j : Int))).bind fun t => if t = true then some false else spec_l2Order.l0 k l ((j + 1 : Nat) : Int)) (fun k => by simp only [spec_l2Order.l0, c, c0, c1, ev_l1In', h, e1, Option.bind_some, Int.toNat_natCast, ↓reduceIte]) ?_
      refine Ev.bind (ev_l1Has (l.take j) _ (by rw [List.length_take]; omega)) ?_
      cases hc : (l.take j).contains (rd l (j : Int)) with
      | true =>
        simp only [↓reduceIte, Bool.not_true, Bool.false_and]
        exact Ev.now _
      | false =>
        simp only [Bool.false_eq_true, ↓reduceIte, Bool.not_false, Bool.true_and]
        exact ih (j + 1) (by omega)
    · have h' := Bool.eq_false_iff.2 h
      rw [h', Bool.false_and, Bool.false_and]
      exact Ev.step (fun k => by simp only [spec_l2Order.l0, c, c0, ev_l1In', h', Option.bind_some, Bool.false_eq_true, ↓reduceIte] <;> rfl) (Ev.now _)
theorem ev_l2Order (l : List Int) : Ev (fun k => spec_l2Order.f k l) (ordB l) := by
  unfold spec_l2Order.f ordB
  simp only [ev_l1In', Option.bind_some]
  by_cases h1 : 1 ≤ l.length
  · have g1 : (1 : Int) ≤ (l.length : Int) := by omega
    by_cases h7 : l.length ≤ 7
    · have g7 : (l.length : Int) ≤ 7 := by omega
      have := ev_l2Order_l0 l h7 l.length 0 (by omega)
      simp only [h1, h7, g1, g7, decide_true, Bool.and_true, Bool.true_and, ↓reduceIte]
      rw [List.take_zero, List.drop_zero] at this
      exact this
    · have g7 : ¬ (l.length : Int) ≤ 7 := by omega
      simp only [h7, g7, decide_false, Bool.and_false, Bool.false_and, Bool.false_eq_true, ↓reduceIte]
      exact Ev.now _
  · have g1 : ¬ (1 : Int) ≤ (l.length : Int) := by omega
    simp only [h1, g1, decide_false, Bool.false_and, Bool.false_eq_true, ↓reduceIte]
    exact Ev.now _
theorem ev_Index_l0 (l : List Int) (x : Int) (hl : l.length < 9223372036854775807) (d : Nat) : ∀ j : Nat, j + d = l.length → ∃ r : Int, Ev (fun k => slices_Index_int_int.l0 k l x (l.length : Int) (j : Int)) r ∧ decide (r ≥ 0) = (l.drop j).contains x := by
  induction d with
  | zero =>
    intro j hj
    have c : ¬ (j : Int) < (l.length : Int) := by omega
    rw [List.drop_of_length_le (by omega)]
    exact ⟨-1, Ev.step (fun k => by simp only [slices_Index_int_int.l0, c, ↓reduceIte] <;> rfl) (Ev.now _), rfl⟩
  | succ d ih =>
    intro j hj
    have c : (j : Int) < (l.length : Int) := by omega
    have c0 : 0 ≤ (j : Int) := by omega
    have e1 : wrap64 ((j : Int) + 1) = ((j + 1 : Nat) : Int) := wj (by omega)
    rw [rd_drop l j (by omega), List.contains_cons]
    by_cases h : x = rd l (j : Int)
    · have : (x == rd l (j : Int)) = true := beq_iff_eq.2 h
      rw [this, Bool.true_or]
      exact ⟨j, Ev.step (fun k => by simp only [slices_Index_int_int.l0, c, c0, ↓reduceIte]; rw [if_pos h]) (Ev.now _), by simp⟩
    · have : (x == rd l (j : Int)) = false := beq_eq_false_iff_ne.2 h
      rw [this, Bool.false_or]
      obtain ⟨r, hr, hd⟩ := ih (j + 1) (by omega)
      exact ⟨r, Ev.step (fun k => by simp only [slices_Index_int_int.l0, c, c0, h, e1, ↓reduceIte]) hr, hd⟩
theorem ev_Contains (l : List Int) (x : Int) (hl : l.length < 9223372036854775807) : Ev (fun k => slices_Contains_int_int.f k l x) (l.contains x) := by
  obtain ⟨r, hr, hd⟩ := ev_Index_l0 l x hl l.length 0 (by omega)
  rw [List.drop_zero] at hd
  unfold slices_Contains_int_int.f slices_Index_int_int.f
  refine Ev.bind hr ?_
  rw [hd]
  exact Ev.now _
theorem ev_isOrder_l0 (l : List Int) (hl : l.length ≤ 7) (d : Nat) : ∀ j : Nat, j + d = l.length → Ev (fun k => impl_isOrder.l0 k l l (l.length : Int) (j : Int)) (chk l.length (l.take j) (l.drop j)) := by
  induction d with
  | zero =>
    intro j hj
    have c : ¬ (j : Int) < (l.length : Int) := by omega
    rw [List.drop_of_length_le (by omega)]
    exact Ev.step (fun k => by simp only [impl_isOrder.l0, c, ↓reduceIte] <;> rfl) (Ev.now _)
  | succ d ih =>
    intro j hj
    have c : (j : Int) < (l.length : Int) := by omega
    have c0 : 0 ≤ (j : Int) := by omega
    have c1 : (j : Int) ≤ (l.length : Int) := by omega
    have e1 : wrap64 ((j : Int) + 1) = ((j + 1 : Nat) : Int) := wj (by omega)
    rw [rd_drop l j (by omega), chk, ← take_succ l j (by omega)]
    by_cases h1 : 1 ≤ rd l (j : Int)
    · have g1 : ¬ rd l (j : Int) < 1 := by omega
      by_cases h2 : rd l (j : Int) ≤ (l.length : Int)
      · have g2 : ¬ rd l (j : Int) > (l.length : Int) := by omega
        simp only [h1, h2, decide_true, Bool.true_and]
        refine Ev.step (f := fun k => (slices_Contains_int_int.f k (l.take j) (rd l (j : Int))).bind fun t => if t = true then some false else impl_isOrder.l0 k l l (l.length : Int) ((j + 1 : Nat) : Int)) (fun k => by simp only [impl_isOrder.l0, c, c0, c1, g1, g2, e1, Int.toNat_natCast, ↓reduceIte]) ?_
        refine Ev.bind (ev_Contains (l.take j) _ (by rw [List.length_take]; omega)) ?_
        cases hc : (l.take j).contains (rd l (j : Int)) with
        | true =>
          simp only [↓reduceIte, Bool.not_true, Bool.false_and]
          exact Ev.now _
        | false =>
          simp only [Bool.false_eq_true, ↓reduceIte, Bool.not_false, Bool.true_and]
          exact ih (j + 1) (by omega)
      · have g2 : rd l (j : Int) > (l.length : Int) := by omega
        simp only [h2, decide_false, Bool.and_false, Bool.false_and]
        exact Ev.step (fun k => by simp only [impl_isOrder.l0, c, c0, g1, g2, ↓reduceIte] <;> rfl) (Ev.now _)
    · have g1 : rd l (j : Int) < 1 := by omega
      simp only [h1, decide_false, Bool.false_and]
      exact Ev.step (fun k => by simp only [impl_isOrder.l0, c, c0, g1, ↓reduceIte] <;> rfl) (Ev.now _)
theorem ev_isOrder (l : List Int) : Ev (fun k => impl_isOrder.f k l) (ordB l) := by
  unfold impl_isOrder.f ordB
  by_cases h1 : 1 ≤ l.length
  · have g1 : ¬ (l.length : Int) < 1 := by omega
    by_cases h7 : l.length ≤ 7
    · have g7 : ¬ (l.length : Int) > 7 := by omega
      have := ev_isOrder_l0 l h7 l.length 0 (by omega)
      simp only [h1, h7, g1, g7, decide_true, decide_false, Bool.true_and, ↓reduceIte]
      refine Ev.step (fun k => by simp only [impl_isOrder.j0, Bool.false_eq_true, ↓reduceIte] <;> rfl) ?_
      rw [List.take_zero, List.drop_zero] at this
      exact this
    · have g7 : (l.length : Int) > 7 := by omega
      simp only [h7, g1, g7, decide_true, decide_false, Bool.and_false, Bool.false_and, ↓reduceIte]
      exact Ev.step (fun k => by simp only [impl_isOrder.j0, ↓reduceIte] <;> rfl) (Ev.now _)
  · have g1 : (l.length : Int) < 1 := by omega
    simp only [h1, g1, decide_false, Bool.false_and, ↓reduceIte]
    exact Ev.step (fun k => by simp only [impl_isOrder.j0, ↓reduceIte] <;> rfl) (Ev.now _)
/-! ### what the reference and the program tell of beginnings -/
def begR : Option (Int × Int) → Int
  | some (p, q) => p - q
  | none => -1
theorem ev_l1In (a b c : Int) : spec_l1In.f a b c = some (decide (b ≤ a) && decide (a ≤ c)) := by
  unfold spec_l1In.f
  by_cases h : b ≤ a
  · rw [if_pos h, decide_eq_true h, Bool.true_and]
  · rw [if_neg h, decide_eq_false h, Bool.false_and]
theorem ev_l11In_l0 (n : Int) (s : ByteArray) (hn0 : 1 ≤ n) (hn6 : n ≤ 6) (hs : s.size ≤ 1048576) (d : Nat) : ∀ (j : Nat) (p q : Int), j + d = s.size → 0 ≤ q → q ≤ p → p ≤ n →
    Ev (fun k => spec_l11In.l0 k n s (p - q) p (j : Int)) (begR (beg n ((bs s).drop j) p q)) := by
  induction d with
  | zero =>
    intro j p q hj h0 h1 h2
    rw [bs_end s j (by omega)]
    have c : ¬ (j : Int) < (s.size : Int) := by omega
    exact Ev.step (fun k => by simp only [spec_l11In.l0, c, ↓reduceIte] <;> rfl) (Ev.now _)
  | succ d ih =>
    intro j p q hj h0 h1 h2
    rw [bs_drop s j (by omega)]
    have c : (j : Int) < (s.size : Int) := by omega
    have c0 : 0 ≤ (j : Int) := by omega
    have e1 : wrap64 ((j : Int) + 1) = ((j + 1 : Nat) : Int) := wj (by omega)
    simp only [beg]
    by_cases hI : bt s (j : Int) = 73
    · simp only [hI, ↓reduceIte]
      by_cases hp : p < n
      · simp only [hp, ↓reduceIte]
        have ih' := ih (j + 1) (p + 1) q (by omega) h0 (by omega) (by omega)
        rw [show p + 1 - q = p - q + 1 by omega] at ih'
        refine Ev.step (fun k => by simp only [spec_l11In.l0, c, c0, hI, hp, decide_true, ↓reduceIte] <;> rfl) (Ev.step (f := fun k => spec_l11In.l0 k n s (p - q + 1) (p + 1) ((j + 1 : Nat) : Int)) (fun k => ?_) ih')
        simp only [spec_l11In.j1, ↓reduceIte]
        rw [wr (i := p - q + 1) (by omega) (by omega), wr (i := p + 1) (by omega) (by omega), e1]
      · simp only [hp, ↓reduceIte]
        refine Ev.step (fun k => by simp only [spec_l11In.l0, c, c0, hI, hp, decide_false, ↓reduceIte] <;> rfl) (Ev.step (f := fun _ => some (-1)) (fun k => ?_) (Ev.now _))
        simp only [spec_l11In.j1, c, c0, hI, ↓reduceIte]
        rfl
    · simp only [hI, ↓reduceIte]
      by_cases hO : bt s (j : Int) = 79
      · simp only [hO, ↓reduceIte]
        by_cases hq : q < p
        · simp only [hq, ↓reduceIte]
          have ih' := ih (j + 1) p (q + 1) (by omega) (by omega) (by omega) (by omega)
          rw [show p - (q + 1) = p - q - 1 by omega] at ih'
          have g : p - q > 0 := by omega
          refine Ev.step (fun k => by simp only [spec_l11In.l0, c, c0, hI, ↓reduceIte] <;> rfl) (Ev.step (f := fun k => spec_l11In.l0 k n s (p - q - 1) p ((j + 1 : Nat) : Int)) (fun k => ?_) ih')
          simp only [spec_l11In.j1, c, c0, hO, g, Bool.false_eq_true, ↓reduceIte]
          rw [wr (i := p - q - 1) (by omega) (by omega), e1]
        · simp only [hq, ↓reduceIte]
          have g : ¬ p - q > 0 := by omega
          refine Ev.step (fun k => by simp only [spec_l11In.l0, c, c0, hI, ↓reduceIte] <;> rfl) (Ev.step (f := fun _ => some (-1)) (fun k => ?_) (Ev.now _))
          simp only [spec_l11In.j1, c, c0, hO, g, Bool.false_eq_true, ↓reduceIte]
      · simp only [hO, ↓reduceIte]
        refine Ev.step (fun k => by simp only [spec_l11In.l0, c, c0, hI, ↓reduceIte] <;> rfl) (Ev.step (f := fun _ => some (-1)) (fun k => ?_) (Ev.now _))
        simp only [spec_l11In.j1, c, c0, hO, Bool.false_eq_true, ↓reduceIte]
theorem ev_isBeginning_l0 (n : Int) (s : ByteArray) (hn0 : 1 ≤ n) (hn6 : n ≤ 6) (hs : s.size ≤ 1048576) (d : Nat) : ∀ (j : Nat) (p q : Int), j + d = s.size → 0 ≤ q → q ≤ p → p ≤ n →
    Ev (fun k => impl_isBeginning.l0 k n s p q (s.size : Int) (j : Int)) (beg n ((bs s).drop j) p q).isSome := by
  induction d with
  | zero =>
    intro j p q hj h0 h1 h2
    rw [bs_end s j (by omega)]
    have c : ¬ (j : Int) < (s.size : Int) := by omega
    exact Ev.step (fun k => by simp only [impl_isBeginning.l0, c, ↓reduceIte] <;> rfl) (Ev.now _)
  | succ d ih =>
    intro j p q hj h0 h1 h2
    rw [bs_drop s j (by omega)]
    have c : (j : Int) < (s.size : Int) := by omega
    have c0 : 0 ≤ (j : Int) := by omega
    have e1 : wrap64 ((j : Int) + 1) = ((j + 1 : Nat) : Int) := wj (by omega)
    have e2 : wrap64 (p + 1) = p + 1 := wr (by omega) (by omega)
    have e3 : wrap64 (q + 1) = q + 1 := wr (by omega) (by omega)
    simp only [beg]
    by_cases hI : bt s (j : Int) = 73
    · simp only [hI, ↓reduceIte]
      have g1 : ¬ q > p + 1 := by omega
      by_cases hp : p < n
      · have g2 : ¬ p + 1 > n := by omega
        simp only [hp, ↓reduceIte]
        exact Ev.step (fun k => by simp only [impl_isBeginning.l0, c, c0, hI, e1, e2, g1, g2, ↓reduceIte]) (ih (j + 1) (p + 1) q (by omega) h0 (by omega) (by omega))
      · have g2 : p + 1 > n := by omega
        simp only [hp, ↓reduceIte]
        exact Ev.step (fun k => by simp only [impl_isBeginning.l0, c, c0, hI, e2, g1, g2, ↓reduceIte] <;> rfl) (Ev.now _)
    · simp only [hI, ↓reduceIte]
      by_cases hO : bt s (j : Int) = 79
      · simp only [hO, ↓reduceIte]
        have g2 : ¬ p > n := by omega
        by_cases hq : q < p
        · have g1 : ¬ q + 1 > p := by omega
          simp only [hq, ↓reduceIte]
          exact Ev.step (fun k => by simp only [impl_isBeginning.l0, c, c0, hI, hO, e1, e3, g1, g2, ↓reduceIte] <;> rfl) (ih (j + 1) p (q + 1) (by omega) (by omega) (by omega) (by omega))
        · have g1 : q + 1 > p := by omega
          simp only [hq, ↓reduceIte]
          exact Ev.step (fun k => by simp only [impl_isBeginning.l0, c, c0, hI, hO, e3, g1, g2, ↓reduceIte] <;> rfl) (Ev.now _)
      · simp only [hO, ↓reduceIte]
        exact Ev.step (fun k => by simp only [impl_isBeginning.l0, c, c0, hI, hO, ↓reduceIte] <;> rfl) (Ev.now _)
/-- Is a text a beginning for n numbers? -/
def isBeg (n : Int) (s : ByteArray) : Bool := decide (1 ≤ n) && decide (n ≤ 6) && decide ((s.size : Int) ≤ 2 * n) && (beg n (bs s) 0 0).isSome
theorem begR_some (n : Int) (l : List Int) (h : 0 ≤ n) : decide (begR (beg n l 0 0) ≥ 0) = (beg n l 0 0).isSome := by
  cases e : beg n l 0 0 with
  | none => rfl
  | some r =>
    obtain ⟨p, q⟩ := r
    have := beg_bounds n l 0 0 p q (by omega) h e
    show decide (p - q ≥ 0) = true
    exact decide_eq_true (by omega)
theorem ev_l11In (n : Int) (s : ByteArray) (hn0 : 1 ≤ n) (hn6 : n ≤ 6) (hs : s.size ≤ 1048576) : Ev (fun k => spec_l11In.f k n s) (if (s.size : Int) ≤ 2 * n then begR (beg n (bs s) 0 0) else -1) := by
  have e : wrap64 (2 * n) = 2 * n := wr (by omega) (by omega)
  by_cases h : (s.size : Int) ≤ 2 * n
  · have h' : ¬ (s.size : Int) > 2 * n := by omega
    have := ev_l11In_l0 n s hn0 hn6 hs s.size 0 0 0 (by omega) (by omega) (by omega) (by omega)
    simp only [List.drop_zero] at this
    simp only [spec_l11In.f, e, h, h', ↓reduceIte]
    exact this
  · have h' : (s.size : Int) > 2 * n := by omega
    simp only [spec_l11In.f, e, h, h', ↓reduceIte]
    exact Ev.now _
theorem ev_isBeginning (n : Int) (s : ByteArray) (hs : s.size ≤ 1048576) : Ev (fun k => impl_isBeginning.f k n s) (isBeg n s) := by
  unfold isBeg
  by_cases h1 : 1 ≤ n
  · by_cases h6 : n ≤ 6
    · have e : wrap64 (2 * n) = 2 * n := wr (by omega) (by omega)
      have g1 : ¬ n < 1 := by omega
      have g6 : ¬ n > 6 := by omega
      simp only [impl_isBeginning.f, g1, g6, e, h1, h6, decide_true, Bool.true_and, ↓reduceIte]
      by_cases hl : (s.size : Int) ≤ 2 * n
      · have hl' : ¬ (s.size : Int) > 2 * n := by omega
        simp only [hl, hl', decide_true, decide_false, Bool.true_and]
        have := ev_isBeginning_l0 n s h1 h6 hs s.size 0 0 0 (by omega) (by omega) (by omega) (by omega)
        simp only [List.drop_zero] at this
        exact Ev.step (fun k => by simp only [impl_isBeginning.j0, Bool.false_eq_true, ↓reduceIte] <;> rfl) this
      · have hl' : (s.size : Int) > 2 * n := by omega
        simp only [hl, hl', decide_true, decide_false, Bool.false_and]
        exact Ev.step (fun k => by simp only [impl_isBeginning.j0, ↓reduceIte] <;> rfl) (Ev.now _)
    · have g1 : ¬ n < 1 := by omega
      have g6 : n > 6 := by omega
      simp only [impl_isBeginning.f, g1, g6, h6, decide_false, Bool.and_false, Bool.false_and, ↓reduceIte]
      exact Ev.step (fun k => by simp only [impl_isBeginning.j0, ↓reduceIte] <;> rfl) (Ev.now _)
  · have g1 : n < 1 := by omega
    simp only [impl_isBeginning.f, g1, h1, decide_false, Bool.false_and, ↓reduceIte]
    exact Ev.step (fun k => by simp only [impl_isBeginning.j0, ↓reduceIte] <;> rfl) (Ev.now _)
/-! ### an order and a beginning; the stack behind it -/
def duelB (l : List Int) (s : ByteArray) : Bool := ordB l && isBeg (l.length : Int) s
theorem duelB_facts {l : List Int} {s : ByteArray} (h : duelB l s = true) : ordB l = true ∧ 1 ≤ l.length ∧ l.length ≤ 6 ∧ (s.size : Int) ≤ 2 * (l.length : Int) ∧ ∃ p q, beg (l.length : Int) (bs s) 0 0 = some (p, q) := by
  unfold duelB isBeg at h
  simp only [Bool.and_eq_true, decide_eq_true_eq] at h
  obtain ⟨h0, ⟨⟨h1, h6⟩, hl⟩, hb⟩ := h
  obtain ⟨⟨p, q⟩, hp⟩ := Option.isSome_iff_exists.1 hb
  exact ⟨h0, by omega, by omega, hl, p, q, hp⟩
theorem ev_isDuel (l : List Int) (s : ByteArray) (hs : s.size ≤ 1048576) : Ev (fun k => impl_isDuel.f k l s) (duelB l s) := by
  unfold impl_isDuel.f duelB
  refine Ev.bind (ev_isOrder l) ?_
  cases ho : ordB l with
  | false =>
    simp only [Bool.false_eq_true, ↓reduceIte, Bool.false_and]
    exact Ev.now _
  | true =>
    simp only [↓reduceIte, Bool.true_and]
    exact Ev.bind (ev_isBeginning (l.length : Int) s hs) (Ev.now _)
theorem ev_stackAfter_l0 (l : List Int) (s : ByteArray) (hn : l.length ≤ 6) (hs : s.size ≤ 1048576) (d : Nat) : ∀ (j p : Nat) (q : Int) (st : List Int) (pd : Int), j + d = s.size → p ≤ l.length → (st.length : Int) = (p : Int) - q → 0 ≤ q → (beg (l.length : Int) ((bs s).drop j) p q).isSome = true →
    Ev (fun k => impl_stackAfter.l0 k (l.drop p) s st pd (s.size : Int) (j : Int)) (stk ((bs s).drop j) (l.drop p) st pd) := by
  induction d with
  | zero =>
    intro j p q st pd hj hp hst hq hb
    rw [bs_end s j (by omega)]
    have c : ¬ (j : Int) < (s.size : Int) := by omega
    exact Ev.step (f := fun _ => some (st, pd)) (fun k => by simp only [impl_stackAfter.l0, c, ↓reduceIte]) (Ev.now _)
  | succ d ih =>
    intro j p q st pd hj hp hst hq hb
    rw [bs_drop s j (by omega)] at hb ⊢
    have c : (j : Int) < (s.size : Int) := by omega
    have c0 : 0 ≤ (j : Int) := by omega
    have e1 := Aside0.mk (show wrap64 ((j : Int) + 1) = ((j + 1 : Nat) : Int) from wj (by omega))
    simp only [beg] at hb
    simp only [stk]
    by_cases hI : bt s (j : Int) = 73
    · simp only [hI, ↓reduceIte] at hb ⊢
      by_cases hpn : (p : Int) < (l.length : Int)
      · simp only [hpn, ↓reduceIte] at hb
        have g0 : 0 < ((l.drop p).length : Int) := by rw [List.length_drop]; omega
        have g1 : 1 ≤ ((l.drop p).length : Int) := by omega
        have lim : st.length < 17592186044416 := by omega
        have ih' := ih (j + 1) (p + 1) q (st ++ [rd (l.drop p) 0]) 0 (by omega) (by omega) (by rw [List.length_append, List.length_singleton]; omega) hq hb
        rw [← List.drop_drop] at ih'
        rw [show (l.drop p).headD 0 = rd (l.drop p) 0 by unfold rd; simp [List.headD_eq_head?_getD, List.head?_drop], show (l.drop p).tail = (l.drop p).drop 1 by simp]
        refine Ev.step (fun k => ?_) ih'
        simp only [impl_stackAfter.l0, c, c0, hI, g0, g1, lim, e1.out, ↓reduceIte]
      · simp only [hpn, ↓reduceIte] at hb
        cases hb
    · simp only [hI, ↓reduceIte] at hb ⊢
      by_cases hO : bt s (j : Int) = 79
      · simp only [hO, ↓reduceIte] at hb
        by_cases hqp : q < (p : Int)
        · simp only [hqp, ↓reduceIte] at hb
          rcases snoc_cases st with rfl | ⟨st, x, rfl⟩
          · simp only [List.length_nil, Int.natCast_zero] at hst
            omega
          · have hlen : (st ++ [x]).length = st.length + 1 := by simp
            rw [hlen] at hst
            have et := Aside0.mk (show wrap64 (((st ++ [x]).length : Int) - 1) = (st.length : Int) from by rw [hlen, wr (by omega) (by omega)]; omega)
            have etop : rd (st ++ [x]) (st.length : Int) = x := by rw [rd_nat]; simp
            have t0 : 0 ≤ (st.length : Int) := by omega
            have t1 : (st.length : Int) < ((st ++ [x]).length : Int) := by rw [hlen]; omega
            have t2 : (st.length : Int) ≤ ((st ++ [x]).length : Int) := by rw [hlen]; omega
            have ih' := ih (j + 1) p (q + 1) st x (by omega) hp (by omega) (by omega) hb
            rw [show (st ++ [x]).dropLast = st by simp, show (st ++ [x]).getLastD 0 = x by simp]
            refine Ev.step (fun k => ?_) ih'
            simp only [impl_stackAfter.l0, c, c0, hI, et.out, t0, t1, t2, etop, e1.out, Int.toNat_natCast, ↓reduceIte]
            rw [show (st ++ [x]).take st.length = st by simp]
        · simp only [hqp, ↓reduceIte] at hb
          cases hb
      · simp only [hO, ↓reduceIte] at hb
        cases hb
theorem ev_stackAfter (l : List Int) (s : ByteArray) (h : duelB l s = true) (hs : s.size ≤ 1048576) : Ev (fun k => impl_stackAfter.f k l s) (stk (bs s) l [] 0) := by
  obtain ⟨h0, h1, h6, hl, p, q, hb⟩ := duelB_facts h
  have := ev_stackAfter_l0 l s h6 hs s.size 0 0 0 [] 0 (by omega) (by omega) (by simp) (by omega) (by rw [List.drop_zero]; exact Option.isSome_iff_exists.2 ⟨_, hb⟩)
  simp only [List.drop_zero] at this
  exact this
theorem ev_l11Stack_l0 (l : List Int) (s : ByteArray) (hn : l.length ≤ 6) (hs : s.size ≤ 1048576) (d : Nat) : ∀ (j p : Nat) (q : Int) (st : List Int) (pd : Int), j + d = s.size → p ≤ l.length → (st.length : Int) = (p : Int) - q → 0 ≤ q → (beg (l.length : Int) ((bs s).drop j) p q).isSome = true →
    Ev (fun k => spec_l11Stack.l0 k l s st (p : Int) (j : Int)) (stk ((bs s).drop j) (l.drop p) st pd).1 := by
  induction d with
  | zero =>
    intro j p q st pd hj hp hst hq hb
    rw [bs_end s j (by omega)]
    have c : ¬ (j : Int) < (s.size : Int) := by omega
    have lim : ([] : List Int).length + st.length < 17592186044416 := by simp; omega
    refine Ev.step (f := fun _ => some st) (fun k => ?_) (Ev.now _)
    simp only [spec_l11Stack.l0, c, ↓reduceIte, spec_l1Own.f, Option.bind_some, lim, List.nil_append]
  | succ d ih =>
    intro j p q st pd hj hp hst hq hb
    rw [bs_drop s j (by omega)] at hb ⊢
    have c : (j : Int) < (s.size : Int) := by omega
    have c0 : 0 ≤ (j : Int) := by omega
    have e1 := Aside0.mk (show wrap64 ((j : Int) + 1) = ((j + 1 : Nat) : Int) from wj (by omega))
    have e2 := Aside0.mk (show wrap64 ((p : Int) + 1) = ((p + 1 : Nat) : Int) from wj (by omega))
    simp only [beg] at hb
    simp only [stk]
    by_cases hI : bt s (j : Int) = 73
    · simp only [hI, ↓reduceIte] at hb ⊢
      by_cases hpn : (p : Int) < (l.length : Int)
      · simp only [hpn, ↓reduceIte] at hb
        have c0p : 0 ≤ (p : Int) := by omega
        have lim : st.length < 17592186044416 := by omega
        have ih' := ih (j + 1) (p + 1) q (st ++ [rd l (p : Int)]) 0 (by omega) (by omega) (by rw [List.length_append, List.length_singleton]; omega) hq hb
        rw [show (l.drop p).headD 0 = rd l (p : Int) by rw [rd_drop l p (by omega)]; rfl, show (l.drop p).tail = l.drop (p + 1) by simp]
        refine Ev.step (fun k => ?_) ih'
        simp only [spec_l11Stack.l0, c, c0, hI, c0p, hpn, lim, e1.out, e2.out, ↓reduceIte]
      · simp only [hpn, ↓reduceIte] at hb
        cases hb
    · simp only [hI, ↓reduceIte] at hb ⊢
      by_cases hO : bt s (j : Int) = 79
      · simp only [hO, ↓reduceIte] at hb
        by_cases hqp : q < (p : Int)
        · simp only [hqp, ↓reduceIte] at hb
          rcases snoc_cases st with rfl | ⟨st, x, rfl⟩
          · simp only [List.length_nil, Int.natCast_zero] at hst
            omega
          · have hlen : (st ++ [x]).length = st.length + 1 := by simp
            rw [hlen] at hst
            have et := Aside0.mk (show wrap64 (((st ++ [x]).length : Int) - 1) = (st.length : Int) from by rw [hlen, wr (by omega) (by omega)]; omega)
            have t0 : 0 ≤ (st.length : Int) := by omega
            have t2 : (st.length : Int) ≤ ((st ++ [x]).length : Int) := by rw [hlen]; omega
            have ih' := ih (j + 1) p (q + 1) st x (by omega) hp (by omega) (by omega) hb
            rw [show (st ++ [x]).dropLast = st by simp, show (st ++ [x]).getLastD 0 = x by simp]
            refine Ev.step (fun k => ?_) ih'
            simp only [spec_l11Stack.l0, c, c0, hI, et.out, t0, t2, e1.out, Int.toNat_natCast, ↓reduceIte]
            rw [show (st ++ [x]).take st.length = st by simp]
        · simp only [hqp, ↓reduceIte] at hb
          cases hb
      · simp only [hO, ↓reduceIte] at hb
        cases hb
theorem ev_l11Stack (l : List Int) (s : ByteArray) (h : duelB l s = true) (hs : s.size ≤ 1048576) : Ev (fun k => spec_l11Stack.f k l s) (stk (bs s) l [] 0).1 := by
  obtain ⟨h0, h1, h6, hl, p, q, hb⟩ := duelB_facts h
  have := ev_l11Stack_l0 l s h6 hs s.size 0 0 0 [] 0 (by omega) (by omega) (by simp) (by omega) (by rw [List.drop_zero]; exact Option.isSome_iff_exists.2 ⟨_, hb⟩)
  simp only [List.drop_zero] at this
  exact this
theorem ev_l11Good (l : List Int) (s : ByteArray) (hs : s.size ≤ 1048576) : Ev (fun k => spec_l11Good.f k l s) (duelB l s) := by
  unfold spec_l11Good.f duelB
  refine Ev.bind (ev_l2Order l) ?_
  cases ho : ordB l with
  | false =>
    simp only [Bool.false_eq_true, ↓reduceIte, Bool.false_and]
    exact Ev.now _
  | true =>
    obtain ⟨g1, g7⟩ := ordB_len ho
    simp only [↓reduceIte, Bool.true_and]
    by_cases h6 : (l.length : Int) ≤ 6
    · simp only [h6, ↓reduceIte]
      refine Ev.bind (ev_l11In (l.length : Int) s (by omega) h6 hs) ?_
      unfold isBeg
      have h1 : (1 : Int) ≤ (l.length : Int) := by omega
      by_cases hl : (s.size : Int) ≤ 2 * (l.length : Int)
      · simp only [hl, h1, h6, decide_true, Bool.true_and, ↓reduceIte]
        rw [begR_some _ _ (by omega)]
        exact Ev.now _
      · simp only [hl, h1, h6, decide_true, decide_false, Bool.true_and, Bool.false_and, ↓reduceIte]
        exact Ev.now _
    · simp only [h6, ↓reduceIte]
      unfold isBeg
      simp only [h6, decide_false, Bool.and_false, Bool.false_and]
      exact Ev.now _
/-! ### more of the stack behind a beginning -/
theorem stk_snoc : ∀ (a rest st : List Int) (pd c : Int), (stk (a ++ [c]) rest st pd).2 = if c = 73 then 0 else (stk a rest st pd).1.getLastD 0
  | [], rest, st, pd, c => by simp only [stk, List.nil_append]; split <;> rfl
  | d :: t, rest, st, pd, c => by
    simp only [stk, List.cons_append]
    split
    · exact stk_snoc t _ _ _ c
    · exact stk_snoc t _ _ _ c
theorem stk_high (n : Int) : ∀ (a rest st : List Int) (pd p q p' q' : Int), beg n a p q = some (p', q') → (st.length : Int) = p - q → ((stk a rest st pd).1.length : Int) = p' - q'
  | [], rest, st, pd, p, q, p', q', h, hl => by
    simp only [beg, Option.some.injEq, Prod.mk.injEq] at h
    obtain ⟨rfl, rfl⟩ := h
    exact hl
  | c :: t, rest, st, pd, p, q, p', q', h, hl => by
    simp only [beg] at h
    simp only [stk]
    by_cases h73 : c = 73
    · simp only [h73, ↓reduceIte] at h ⊢
      by_cases hp : p < n
      · simp only [hp, ↓reduceIte] at h
        exact stk_high n t _ _ _ _ _ _ _ h (by rw [List.length_append, List.length_singleton]; omega)
      · simp only [hp, ↓reduceIte] at h
        cases h
    · simp only [h73, ↓reduceIte] at h ⊢
      by_cases h79 : c = 79
      · simp only [h79, ↓reduceIte] at h
        by_cases hq : q < p
        · simp only [hq, ↓reduceIte] at h
          exact stk_high n t _ _ _ _ _ _ _ h (by rw [List.length_dropLast]; omega)
        · simp only [hq, ↓reduceIte] at h
          cases h
      · simp only [h79, ↓reduceIte] at h
        cases h
theorem stk_bound : ∀ (a rest st : List Int) (pd : Int), (∀ x ∈ rest, 0 ≤ x ∧ x ≤ 7) → (∀ x ∈ st, 0 ≤ x ∧ x ≤ 7) → ∀ x ∈ (stk a rest st pd).1, 0 ≤ x ∧ x ≤ 7
  | [], rest, st, pd, _, h => h
  | c :: t, rest, st, pd, hr, hs => by
    simp only [stk]
    split
    · refine stk_bound t _ _ _ (fun x hx => hr x (List.mem_of_mem_tail hx)) ?_
      intro x hx
      rcases List.mem_append.1 hx with hx | hx
      · exact hs x hx
      · rw [List.mem_singleton] at hx
        subst hx
        cases rest with
        | nil => exact ⟨by decide, by decide⟩
        | cons y ys => exact hr y List.mem_cons_self
    · exact stk_bound t _ _ _ hr (fun x hx => hs x ((List.dropLast_sublist st).subset hx))
theorem last_bound {t : List Int} (h : ∀ x ∈ t, 0 ≤ x ∧ x ≤ 7) : 0 ≤ t.getLastD 0 ∧ t.getLastD 0 ≤ 7 := by
  rcases snoc_cases t with rfl | ⟨m, x, rfl⟩
  · exact ⟨by decide, by decide⟩
  · have := h x (by simp)
    rw [show (m ++ [x]).getLastD 0 = x by simp]
    exact this
/-! ### the signs with which a beginning goes on -/
theorem isBeg_snoc (n : Int) (s t : ByteArray) (c : Int) (ht : bs t = [c]) (p q : Int) (h : isBeg n s = true) (hb : beg n (bs s) 0 0 = some (p, q)) : isBeg n (s ++ t) = (if c = 73 then decide (p < n) else if c = 79 then decide (q < p) else false) := by
  unfold isBeg at h ⊢
  simp only [Bool.and_eq_true, decide_eq_true_eq] at h
  obtain ⟨⟨⟨h1, h6⟩, hl⟩, _⟩ := h
  have b := beg_bounds n (bs s) 0 0 p q (by omega) (by omega) hb
  rw [bs_length] at b
  have ht1 : t.size = 1 := by rw [← bs_length, ht]; rfl
  rw [bs_append, beg_append, hb, ht, size_append, ht1]
  simp only [Option.bind_some, beg]
  by_cases h73 : c = 73
  · simp only [h73, ↓reduceIte]
    by_cases hp : p < n
    · simp [hp, h1, h6]
      omega
    · simp [hp]
  · simp only [h73, ↓reduceIte]
    by_cases h79 : c = 79
    · simp only [h79, ↓reduceIte]
      by_cases hp : q < p
      · simp [hp, h1, h6]
        omega
      · simp [hp]
    · simp [h79]
/-- The signs with which a beginning with p pushes and q pops goes on. -/
def signs (n p q : Int) : ByteArray := (if p < n then (⟨#[73]⟩ : ByteArray) else ⟨#[]⟩) ++ (if q < p then (⟨#[79]⟩ : ByteArray) else ⟨#[]⟩)
theorem ev_nextSigns (n : Int) (s : ByteArray) (hs : s.size ≤ 1048576) (p q : Int) (h : isBeg n s = true) (hb : beg n (bs s) 0 0 = some (p, q)) : Ev (fun k => impl_nextSigns.f k n s) (signs n p q) := by
  have hI := isBeg_snoc n s ⟨#[73]⟩ 73 rfl p q h hb
  have hO := isBeg_snoc n s ⟨#[79]⟩ 79 rfl p q h hb
  have hl : (s.size : Int) ≤ 12 := by
    unfold isBeg at h
    simp only [Bool.and_eq_true, decide_eq_true_eq] at h
    omega
  simp only [↓reduceIte] at hI
  rw [if_neg (by decide), if_pos rfl] at hO
  simp only [impl_nextSigns.f, Option.bind_some]
  have z0 : rdOf ByteArray.empty ([(⟨#[73]⟩ : ByteArray), (⟨#[79]⟩ : ByteArray)] : List ByteArray) 0 = ⟨#[73]⟩ := rfl
  have z1 : rdOf ByteArray.empty ([(⟨#[73]⟩ : ByteArray), (⟨#[79]⟩ : ByteArray)] : List ByteArray) 1 = ⟨#[79]⟩ := rfl
  have s73 : (⟨#[73]⟩ : ByteArray).size = 1 := rfl
  have s79 : (⟨#[79]⟩ : ByteArray).size = 1 := rfl
  have k1 : s.size + 1 ≤ 9223372036854775807 := by omega
  have nn : (([(⟨#[73]⟩ : ByteArray), (⟨#[79]⟩ : ByteArray)] : List ByteArray).length : Int) = 2 := rfl
  have w1 : wrap64 (0 + 1) = 1 := by unfold wrap64; omega
  have w2 : wrap64 (1 + 1) = 2 := by unfold wrap64; omega
  have e0 : (⟨#[]⟩ : ByteArray).size = 0 := rfl
  have last : ∀ out : ByteArray, Ev (fun k => impl_nextSigns.l0 k n s out [(⟨#[73]⟩ : ByteArray), (⟨#[79]⟩ : ByteArray)] 2 2) out := fun out => Ev.step (fun k => by simp only [impl_nextSigns.l0]; rfl) (Ev.now _)
  have second : ∀ out : ByteArray, out.size ≤ 1 → Ev (fun k => impl_nextSigns.l0 k n s out [(⟨#[73]⟩ : ByteArray), (⟨#[79]⟩ : ByteArray)] 2 1) (out ++ (if q < p then (⟨#[79]⟩ : ByteArray) else ⟨#[]⟩)) := by
    intro out ho
    have k2 : out.size + 1 ≤ 9223372036854775807 := by omega
    refine Ev.step (f := fun k => (impl_isBeginning.f k n (s ++ ⟨#[79]⟩)).bind fun t => if t = true then impl_nextSigns.l0 k n s (out ++ ⟨#[79]⟩) [(⟨#[73]⟩ : ByteArray), (⟨#[79]⟩ : ByteArray)] 2 2 else impl_nextSigns.l0 k n s out [(⟨#[73]⟩ : ByteArray), (⟨#[79]⟩ : ByteArray)] 2 2) (fun k => ?_) ?_
    · simp only [impl_nextSigns.l0, nn, z1, s79, k1, k2, w2, ↓reduceIte, show ((1 : Int) < 2) = True by decide, show ((0 : Int) ≤ 1) = True by decide]
    · refine Ev.bind (ev_isBeginning n (s ++ ⟨#[79]⟩) (by rw [size_append]; omega)) ?_
      rw [hO]
      by_cases hq : q < p
      · simp only [hq, decide_true, ↓reduceIte]
        exact last _
      · simp only [hq, decide_false, Bool.false_eq_true, ↓reduceIte]
        have : out ++ (⟨#[]⟩ : ByteArray) = out := bs_inj (by rw [bs_append]; simp [bs])
        rw [this]
        exact last _
  refine Ev.step (f := fun k => (impl_isBeginning.f k n (s ++ ⟨#[73]⟩)).bind fun t => if t = true then impl_nextSigns.l0 k n s (⟨#[]⟩ ++ ⟨#[73]⟩) [(⟨#[73]⟩ : ByteArray), (⟨#[79]⟩ : ByteArray)] 2 1 else impl_nextSigns.l0 k n s ⟨#[]⟩ [(⟨#[73]⟩ : ByteArray), (⟨#[79]⟩ : ByteArray)] 2 1) (fun k => ?_) ?_
  · simp only [impl_nextSigns.l0, nn, z0, s73, e0, k1, w1, ↓reduceIte, show ((0 : Int) < 2) = True by decide, show ((0 : Int) ≤ 0) = True by decide, show (0 + 1 ≤ 9223372036854775807) = True by decide]
  · refine Ev.bind (ev_isBeginning n (s ++ ⟨#[73]⟩) (by rw [size_append]; omega)) ?_
    rw [hI]
    unfold signs
    by_cases hp : p < n
    · simp only [hp, decide_true, ↓reduceIte]
      exact second _ (by decide)
    · simp only [hp, decide_false, Bool.false_eq_true, ↓reduceIte]
      exact second _ (by decide)
theorem ev_l11Signs (n : Int) (s : ByteArray) (hs : s.size ≤ 1048576) (p q : Int) (h : isBeg n s = true) (hb : beg n (bs s) 0 0 = some (p, q)) : Ev (fun k => spec_l11Signs.f k n s) (signs n p q) := by
  unfold isBeg at h
  simp only [Bool.and_eq_true, decide_eq_true_eq] at h
  obtain ⟨⟨⟨h1, h6⟩, hl⟩, _⟩ := h
  have b := beg_bounds n (bs s) 0 0 p q (by omega) (by omega) hb
  rw [bs_length] at b
  have r := ev_l11In n s h1 h6 hs
  rw [if_pos hl, hb] at r
  simp only [begR] at r
  unfold spec_l11Signs.f signs
  refine Ev.bind r ?_
  have e : wrap64 (Int.tdiv (wrap64 ((s.size : Int) + (p - q))) 2) = p := by
    rw [wr (i := (s.size : Int) + (p - q)) (by omega) (by omega), show (s.size : Int) + (p - q) = 2 * p by omega, Int.mul_tdiv_cancel_left _ (by decide)]
    exact wr (by omega) (by omega)
  simp only [e]
  have g : (p - q > 0) = (q < p) := by simp only [gt_iff_lt, eq_iff_iff]; omega
  simp only [g]
  by_cases hp : p < n <;> by_cases hq : q < p <;> simp only [hp, hq, ↓reduceIte, show (1 + 1 ≤ 9223372036854775807) = True by decide, show (0 + 1 ≤ 9223372036854775807) = True by decide]
  all_goals first | exact Ev.now _ | exact (bs_inj (by rw [bs_append]; rfl) : (⟨#[73]⟩ : ByteArray) = ⟨#[73]⟩ ++ ⟨#[]⟩) ▸ Ev.now _
/-! ### the value of a beginning -/
def sl (n p q : Int) : List Int := (if p < n then [73] else []) ++ (if q < p then [79] else [])
theorem signs_bs (n p q : Int) : bs (signs n p q) = sl n p q := by
  unfold signs sl
  rw [bs_append]
  split <;> split <;> rfl
theorem signs_cut (n p q : Int) (j : Nat) (hj : j < (sl n p q).length) : (signs n p q).extract j (j + 1) = sg ((sl n p q)[j]'hj) := by
  revert hj
  unfold signs sl
  by_cases h1 : p < n <;> by_cases h2 : q < p <;> simp only [h1, h2, ↓reduceIte] <;> intro hj
  · match j, hj with
    | 0, _ => rfl
    | 1, _ => rfl
  · match j, hj with
    | 0, _ => rfl
  · match j, hj with
    | 0, _ => rfl
  · exact absurd hj (by simp)
theorem sl_mem {n p q c : Int} (h : c ∈ sl n p q) : (c = 73 ∧ p < n) ∨ (c = 79 ∧ q < p) := by
  unfold sl at h
  by_cases h1 : p < n <;> by_cases h2 : q < p <;> simp [h1, h2] at h ⊢ <;> exact h
theorem sl_len (n p q : Int) : (sl n p q).length ≤ 2 := by
  unfold sl
  split <;> split <;> decide
def slO (l : List Int) (s : ByteArray) : List Int := match beg (l.length : Int) (bs s) 0 0 with | some r => sl (l.length : Int) r.1 r.2 | none => []
def gv (l : List Int) (V : ByteArray → Int) (s : ByteArray) (c : Int) : Int := wrap64 ((if c = 79 then (stk (bs s) l [] 0).1.getLastD 0 else 0) - V (s ++ sg c))
def lp (G : Int → Int) : List Int → Bool → Int → Int
  | [], _, best => best
  | c :: t, first, best => lp G t false (if first = true ∨ G c > best then G c else best)
def vl (l : List Int) : Nat → ByteArray → Int
  | 0, _ => 0
  | m + 1, s => lp (gv l (vl l m) s) (slO l s) true 0
theorem sg_bs {c : Int} (h : c = 73 ∨ c = 79) : bs (sg c) = [c] := by rcases h with rfl | rfl <;> rfl
theorem sg_size (c : Int) : (sg c).size = 1 := by unfold sg; split <;> rfl
theorem duel_step {l : List Int} {s : ByteArray} {p q c : Int} (h : duelB l s = true) (hb : beg (l.length : Int) (bs s) 0 0 = some (p, q)) (hc : c ∈ sl (l.length : Int) p q) : duelB l (s ++ sg c) = true := by
  have hh := h
  unfold duelB at hh ⊢
  simp only [Bool.and_eq_true] at hh ⊢
  refine ⟨hh.1, ?_⟩
  rcases sl_mem hc with ⟨rfl, hp⟩ | ⟨rfl, hq⟩
  · rw [isBeg_snoc (l.length : Int) s (sg 73) 73 rfl p q hh.2 hb, if_pos rfl]
    exact decide_eq_true hp
  · rw [isBeg_snoc (l.length : Int) s (sg 79) 79 rfl p q hh.2 hb, if_neg (by decide), if_pos rfl]
    exact decide_eq_true hq
theorem isBeg_of {l : List Int} {s : ByteArray} (h : duelB l s = true) : isBeg (l.length : Int) s = true := by
  unfold duelB at h
  simp only [Bool.and_eq_true] at h
  exact h.2
theorem ev_dlp (G : Nat → Int → Option Int) (H : Int → Int) : ∀ (L : List Int) (f : Bool) (b : Int), (∀ c ∈ L, Ev (fun k => G k c) (H c)) → Ev (fun k => dlp (G k) L f b) (lp H L f b)
  | [], f, b, _ => Ev.now _
  | c :: t, f, b, h => by
    simp only [dlp, lp]
    exact Ev.bind (h c (List.mem_cons_self)) (ev_dlp G H t _ _ fun x hx => h x (List.mem_cons_of_mem _ hx))
theorem ev_slp (G : Nat → ByteArray → Option Int) (H : Int → Int) (sgn : ByteArray) (L : List Int) (h : ∀ j (hj : j < L.length), Ev (fun k => G k (sgn.extract j (j + 1))) (H (L[j]'hj))) : ∀ (d i : Nat) (b : Int), i + d = L.length → Ev (fun k => slp (G k) sgn d i b) (lp H (L.drop i) (decide (i = 0)) b)
  | 0, i, b, hi => by
    rw [List.drop_of_length_le (by omega)]
    exact Ev.now _
  | d + 1, i, b, hi => by
    rw [List.drop_eq_getElem_cons (by omega)]
    simp only [slp, lp]
    refine Ev.bind (h i (by omega)) ?_
    have := ev_slp G H sgn L h d (i + 1) (if i = 0 ∨ H (L[i]'(by omega)) > b then H (L[i]'(by omega)) else b) (by omega)
    simp only [decide_eq_true_eq]
    exact this
theorem ev_dval (l : List Int) : ∀ (m : Nat) (s : ByteArray), duelB l s = true → 2 * l.length < m + s.size → Ev (fun k => dval k l m s) (vl l m s)
  | 0, s, h, hm => by
    obtain ⟨_, _, _, hl, _⟩ := duelB_facts h
    omega
  | m + 1, s, h, hm => by
    obtain ⟨h0, h1, h6, hl, p, q, hb⟩ := duelB_facts h
    simp only [dval, vl]
    refine Ev.bind (ev_nextSigns (l.length : Int) s (by omega) p q (isBeg_of h) hb) ?_
    have hsz : (signs (l.length : Int) p q).size ≤ 2 := by rw [← bs_length, signs_bs]; exact sl_len _ _ _
    rw [show slO l s = sl (l.length : Int) p q by unfold slO; rw [hb]]
    simp only [show ((signs (l.length : Int) p q).size ≤ 2 ∧ s.size ≤ 1000) = True from eq_true ⟨hsz, by omega⟩, ↓reduceIte]
    rw [show bytesOf (signs (l.length : Int) p q) = sl (l.length : Int) p q from signs_bs _ _ _]
    refine ev_dlp (fun k => dgain k l (dval k l m) s) _ _ _ _ fun c hc => ?_
    have hd := duel_step h hb hc
    have hc2 : c = 73 ∨ c = 79 := by rcases sl_mem hc with ⟨e, _⟩ | ⟨e, _⟩; exact .inl e; exact .inr e
    have hs1 : (s ++ sg c).size = s.size + 1 := by rw [size_append, sg_size]
    simp only [dgain, show ((c = 73 ∨ c = 79) ∧ s.size ≤ 1000) = True from eq_true ⟨hc2, by omega⟩, ↓reduceIte]
    refine Ev.bind (ev_stackAfter l (s ++ sg c) hd (by omega)) ?_
    refine Ev.bind (ev_dval l m (s ++ sg c) hd (by omega)) ?_
    have e : (stk (bs (s ++ sg c)) l [] 0).2 = if c = 79 then (stk (bs s) l [] 0).1.getLastD 0 else 0 := by
      rw [bs_append, sg_bs hc2, stk_snoc]
      rcases hc2 with rfl | rfl <;> rfl
    rw [e]
    exact Ev.now _
theorem ev_sby (l : List Int) (V : Nat → ByteArray → Option Int) (W : ByteArray → Int) (s : ByteArray) (h : duelB l s = true) (p q : Int) (hb : beg (l.length : Int) (bs s) 0 0 = some (p, q)) (c : Int) (hc : c ∈ sl (l.length : Int) p q) (hV : Ev (fun k => V k (s ++ sg c)) (W (s ++ sg c))) : Ev (fun k => sby k l (V k) s (sg c)) (gv l W s c) := by
  obtain ⟨h0, h1, h6, hl, _⟩ := duelB_facts h
  have hc2 := sl_mem hc
  simp only [sby, show (s.size + (sg c).size ≤ 1000000) = True from eq_true (by rw [sg_size]; omega), ↓reduceIte]
  have hg : Ev (fun k => if (sg c).toList = ([79] : List UInt8) then (spec_l11Stack.f k l s).bind fun t => if 0 < t.length ∧ t.length ≤ 1000000 then some (rd t ((t.length : Int) - 1)) else none else some 0) (if c = 79 then (stk (bs s) l [] 0).1.getLastD 0 else 0) := by
    rcases hc2 with ⟨rfl, hp⟩ | ⟨rfl, hq⟩
    · have e : ¬ (sg 73).toList = ([79] : List UInt8) := by decide +kernel
      simp only [e, ↓reduceIte, show ¬ ((73 : Int) = 79) by decide]
      exact Ev.now _
    · have e : (sg 79).toList = ([79] : List UInt8) := by decide +kernel
      simp only [e, ↓reduceIte]
      refine Ev.bind (ev_l11Stack l s h (by omega)) ?_
      have hh := stk_high (l.length : Int) (bs s) l [] 0 0 0 p q hb (by simp)
      have b := beg_bounds (l.length : Int) (bs s) 0 0 p q (by omega) (by omega) hb
      rw [bs_length] at b
      generalize (stk (bs s) l [] 0).1 = t at hh ⊢
      simp only [show (0 < t.length ∧ t.length ≤ 1000000) = True from eq_true ⟨by omega, by omega⟩, ↓reduceIte]
      rw [show rd t ((t.length : Int) - 1) = t.getLastD 0 by
        rcases snoc_cases t with rfl | ⟨m, x, rfl⟩
        · simp at hh; omega
        · rw [show (((m ++ [x]).length : Int) - 1) = (m.length : Int) by simp, rd_nat]; simp]
      exact Ev.now _
  exact Ev.bind hg (Ev.bind hV (Ev.now _))
theorem ev_sval (l : List Int) : ∀ (m : Nat) (s : ByteArray), duelB l s = true → 2 * l.length < m + s.size → Ev (fun k => sval k l m s) (vl l m s)
  | 0, s, h, hm => by
    obtain ⟨_, _, _, hl, _⟩ := duelB_facts h
    omega
  | m + 1, s, h, hm => by
    obtain ⟨h0, h1, h6, hl, p, q, hb⟩ := duelB_facts h
    simp only [sval, vl]
    refine Ev.bind (ev_l11Signs (l.length : Int) s (by omega) p q (isBeg_of h) hb) ?_
    have hlen : (sl (l.length : Int) p q).length = (signs (l.length : Int) p q).size := by rw [← bs_length, signs_bs]
    have hsz : (signs (l.length : Int) p q).size ≤ 4 := by have := sl_len (l.length : Int) p q; omega
    rw [show slO l s = sl (l.length : Int) p q by unfold slO; rw [hb]]
    simp only [hsz, ↓reduceIte]
    refine ev_slp (fun k => sby k l (sval k l m) s) (gv l (vl l m) s) (signs (l.length : Int) p q) (sl (l.length : Int) p q) (fun j hj => ?_) _ 0 0 (by omega)
    rw [signs_cut (l.length : Int) p q j hj]
    have hc : (sl (l.length : Int) p q)[j]'hj ∈ sl (l.length : Int) p q := List.getElem_mem hj
    have hd := duel_step h hb hc
    exact ev_sby l (fun k => sval k l m) (vl l m) s h p q hb _ hc (ev_sval l m _ hd (by rw [size_append, sg_size]; omega))
theorem ev_l11Value (l : List Int) (s : ByteArray) (h : duelB l s = true) : Ev (fun k => spec_l11Value.f k l s) (vl l 14 s) := by
  obtain ⟨_, _, h6, _⟩ := duelB_facts h
  obtain ⟨K, hK⟩ := ev_sval l 14 s h (by omega)
  refine ⟨K + 14, fun k hk => ?_⟩
  exact at_rounds (g := fun m => sval k l m s) (fun m => sval_more k l m s) (by omega : 14 ≤ k) (hK k (by omega))
/-! ### the best signs -/
def bstL (G : Int → Int) (v : Int) : List Int → ByteArray → ByteArray
  | [], o => o
  | c :: t, o => bstL G v t (if G c = v then o ++ sg c else o)
def bestB (l : List Int) (s : ByteArray) : ByteArray := bstL (gv l (vl l 14) s) (vl l 14 s) (slO l s) ⟨#[]⟩
theorem slO_eq {l : List Int} {s : ByteArray} {p q : Int} (hb : beg (l.length : Int) (bs s) 0 0 = some (p, q)) : slO l s = sl (l.length : Int) p q := by unfold slO; rw [hb]
theorem bstL_size (G : Int → Int) (v : Int) : ∀ L o, (bstL G v L o).size ≤ o.size + L.length
  | [], o => Nat.le_refl _
  | c :: t, o => by
    simp only [bstL]
    have := bstL_size G v t (if G c = v then o ++ sg c else o)
    split at this
    · rename_i h
      rw [size_append, sg_size] at this
      simp only [h, ↓reduceIte, List.length_cons]
      omega
    · rename_i h
      simp only [h, ↓reduceIte, List.length_cons]
      omega
theorem bestB_size (l : List Int) (s : ByteArray) : (bestB l s).size ≤ 2 := by
  have h := bstL_size (gv l (vl l 14) s) (vl l 14 s) (slO l s) ⟨#[]⟩
  have h2 : (slO l s).length ≤ 2 := by
    unfold slO
    split
    · exact sl_len _ _ _
    · exact Nat.zero_le _
  have h3 : (⟨#[]⟩ : ByteArray).size = 0 := rfl
  unfold bestB
  omega
theorem ev_by (l : List Int) (s : ByteArray) (h : duelB l s = true) (p q : Int) (hb : beg (l.length : Int) (bs s) 0 0 = some (p, q)) (c : Int) (hc : c ∈ sl (l.length : Int) p q) : Ev (fun k => spec_l11By.f k l s (sg c)) (gv l (vl l 14) s c) :=
  ev_sby l (fun k => sval k l k) (vl l 14) s h p q hb c hc (ev_l11Value l _ (duel_step h hb hc))
theorem ev_gain (l : List Int) (s : ByteArray) (h : duelB l s = true) (p q : Int) (hb : beg (l.length : Int) (bs s) 0 0 = some (p, q)) (c : Int) (hc : c ∈ sl (l.length : Int) p q) : Ev (fun k => dgain k l (dval k l 14) s c) (gv l (vl l 14) s c) := by
  obtain ⟨h0, h1, h6, hl, _⟩ := duelB_facts h
  have hd := duel_step h hb hc
  have hc2 : c = 73 ∨ c = 79 := by rcases sl_mem hc with ⟨e, _⟩ | ⟨e, _⟩; exact .inl e; exact .inr e
  have hs1 : (s ++ sg c).size = s.size + 1 := by rw [size_append, sg_size]
  simp only [dgain, show ((c = 73 ∨ c = 79) ∧ s.size ≤ 1000) = True from eq_true ⟨hc2, by omega⟩, ↓reduceIte]
  refine Ev.bind (ev_stackAfter l (s ++ sg c) hd (by omega)) ?_
  refine Ev.bind (ev_dval l 14 (s ++ sg c) hd (by omega)) ?_
  have e : (stk (bs (s ++ sg c)) l [] 0).2 = if c = 79 then (stk (bs s) l [] 0).1.getLastD 0 else 0 := by
    rw [bs_append, sg_bs hc2, stk_snoc]
    rcases hc2 with rfl | rfl <;> rfl
  rw [e]
  exact Ev.now _
theorem signs_length (n p q : Int) : (signs n p q).size = (sl n p q).length := by rw [← bs_length, signs_bs]
theorem ev_best_l0 (l : List Int) (s : ByteArray) (H : Int → Int) (v : Int) (n p q : Int) (hH : ∀ c ∈ sl n p q, Ev (fun k => spec_l11By.f k l s (sg c)) (H c)) : ∀ (d j : Nat) (out : ByteArray), j + d = (sl n p q).length → out.size + d ≤ 1000 → Ev (fun k => spec_l11Best.l0 k l s out v (signs n p q) (j : Int)) (bstL H v ((sl n p q).drop j) out)
  | 0, j, out, hj, ho => by
    rw [List.drop_of_length_le (by omega)]
    have c : ¬ (j : Int) < ((signs n p q).size : Int) := by rw [signs_length]; omega
    exact Ev.step (fun k => by simp only [spec_l11Best.l0, c, ↓reduceIte] <;> rfl) (Ev.now _)
  | d + 1, j, out, hj, ho => by
    have hl2 := sl_len n p q
    have c : (j : Int) < ((signs n p q).size : Int) := by rw [signs_length]; omega
    have c0 : 0 ≤ (j : Int) := by omega
    have e1 : wrap64 ((j : Int) + 1) = ((j + 1 : Nat) : Int) := wj (by omega)
    have c1 : (j : Int) ≤ ((j + 1 : Nat) : Int) := by omega
    have c2 : ((j + 1 : Nat) : Int) ≤ ((signs n p q).size : Int) := by rw [signs_length]; omega
    have hj' : j < (sl n p q).length := by omega
    have e2 := signs_cut n p q j hj'
    rw [List.drop_eq_getElem_cons hj']
    have hs := sg_size ((sl n p q)[j]'hj')
    have lim : out.size + 1 ≤ 9223372036854775807 := by omega
    refine Ev.step (f := fun k => (spec_l11By.f k l s (sg ((sl n p q)[j]'hj'))).bind fun t => if t = v then spec_l11Best.l0 k l s (out ++ sg ((sl n p q)[j]'hj')) v (signs n p q) ((j + 1 : Nat) : Int) else spec_l11Best.l0 k l s out v (signs n p q) ((j + 1 : Nat) : Int)) (fun k => ?_) ?_
    · simp only [spec_l11Best.l0, c, c0, e1, c1, c2, Int.toNat_natCast, e2, hs, lim, ↓reduceIte]
    · refine Ev.bind (hH _ (List.getElem_mem hj')) ?_
      simp only [bstL]
      by_cases hv : H ((sl n p q)[j]'hj') = v
      · simp only [hv, ↓reduceIte]
        exact ev_best_l0 l s H v n p q hH d (j + 1) _ (by omega) (by rw [size_append, hs]; omega)
      · simp only [hv, ↓reduceIte]
        exact ev_best_l0 l s H v n p q hH d (j + 1) _ (by omega) (by omega)
theorem ev_l11Best (l : List Int) (s : ByteArray) (h : duelB l s = true) : Ev (fun k => spec_l11Best.f k l s) (bestB l s) := by
  obtain ⟨h0, h1, h6, hl, p, q, hb⟩ := duelB_facts h
  unfold spec_l11Best.f bestB
  refine Ev.bind (ev_l11Value l s h) ?_
  refine Ev.bind (ev_l11Signs (l.length : Int) s (by omega) p q (isBeg_of h) hb) ?_
  rw [slO_eq hb]
  have hl2 := sl_len (l.length : Int) p q
  exact ev_best_l0 l s (gv l (vl l 14) s) (vl l 14 s) (l.length : Int) p q (fun c hc => ev_by l s h p q hb c hc) (sl (l.length : Int) p q).length 0 ⟨#[]⟩ (by omega) (by show 0 + _ ≤ _; omega)
theorem ev_blp (G : Nat → Int → Option Int) (H : Int → Int) (V : Nat → Option Int) (v : Int) (hV : Ev V v) : ∀ (L : List Int) (out : ByteArray), out.size + L.length ≤ 1000 → (∀ c ∈ L, Ev (fun k => G k c) (H c)) → Ev (fun k => blp (G k) (V k) L out) (bstL H v L out)
  | [], out, _, _ => Ev.now _
  | c :: t, out, ho, h => by
    rw [List.length_cons] at ho
    simp only [blp, bstL, show (out.size ≤ 1000) = True from eq_true (by omega), ↓reduceIte]
    refine Ev.bind (h c (List.mem_cons_self)) (Ev.bind hV ?_)
    refine ev_blp G H V v hV t _ ?_ fun x hx => h x (List.mem_cons_of_mem _ hx)
    split
    · rw [size_append, sg_size]; omega
    · omega
theorem ev_dbest (l : List Int) (s : ByteArray) (h : duelB l s = true) : Ev (fun k => dbest k l s) (bestB l s) := by
  obtain ⟨h0, h1, h6, hl, p, q, hb⟩ := duelB_facts h
  unfold dbest bestB
  refine Ev.bind (ev_nextSigns (l.length : Int) s (by omega) p q (isBeg_of h) hb) ?_
  have hl2 := sl_len (l.length : Int) p q
  simp only [show ((signs (l.length : Int) p q).size ≤ 2 ∧ s.size ≤ 1000) = True from eq_true ⟨by rw [signs_length]; exact hl2, by omega⟩, ↓reduceIte]
  rw [show bytesOf (signs (l.length : Int) p q) = sl (l.length : Int) p q from signs_bs _ _ _, slO_eq hb]
  exact ev_blp (fun k => dgain k l (dval k l 14) s) _ (fun k => dval k l 14 s) _ (ev_dval l 14 s h (by omega)) _ _ (by show 0 + _ ≤ _; omega) fun c hc => ev_gain l s h p q hb c hc
/-! ### bounds; the value is the greatest gain -/
theorem gv_bound {l : List Int} (h : ordB l = true) (V : ByteArray → Int) (B : Int) (hB : B ≤ 1000) (s : ByteArray) (c : Int) (hV : ∀ s, -B ≤ V s ∧ V s ≤ B) : -(B + 7) ≤ gv l V s c ∧ gv l V s c ≤ B + 7 := by
  have hx : 0 ≤ (if c = 79 then (stk (bs s) l [] 0).1.getLastD 0 else 0) ∧ (if c = 79 then (stk (bs s) l [] 0).1.getLastD 0 else 0) ≤ 7 := by
    split
    · refine last_bound (stk_bound _ _ _ _ (fun x hx => ?_) (fun x hx => absurd hx (by simp)))
      have h7 := (ordB_len h).2
      have := ordB_range h x hx
      omega
    · exact ⟨by decide, by decide⟩
  have hv := hV (s ++ sg c)
  unfold gv
  rw [wr (by omega) (by omega)]
  omega
theorem lp_bound (G : Int → Int) (B : Int) (hG : ∀ c, -B ≤ G c ∧ G c ≤ B) : ∀ (L : List Int) (f : Bool) (b : Int), -B ≤ b ∧ b ≤ B → -B ≤ lp G L f b ∧ lp G L f b ≤ B
  | [], f, b, h => h
  | c :: t, f, b, h => by
    simp only [lp]
    refine lp_bound G B hG t _ _ ?_
    split
    · exact hG c
    · exact h
theorem vl_bound {l : List Int} (h : ordB l = true) : ∀ (m : Nat), m ≤ 100 → ∀ s, -(7 * (m : Int)) ≤ vl l m s ∧ vl l m s ≤ 7 * (m : Int)
  | 0, _, s => ⟨by simp [vl], by simp [vl]⟩
  | m + 1, hm, s => by
    simp only [vl]
    refine lp_bound _ (7 * ((m + 1 : Nat) : Int)) (fun c => ?_) _ _ _ ⟨by omega, by omega⟩
    have := gv_bound h (vl l m) (7 * (m : Int)) (by omega) s c (vl_bound h m (by omega))
    omega
theorem vl_more {l : List Int} {m : Nat} {s : ByteArray} (h : duelB l s = true) (hm : 2 * l.length < m + s.size) : vl l m s = vl l (m + 1) s := by
  obtain ⟨K1, h1⟩ := ev_dval l m s h hm
  obtain ⟨K2, h2⟩ := ev_dval l (m + 1) s h (by omega)
  exact dval_one (h1 (K1 + K2) (by omega)) (h2 (K1 + K2) (by omega))
theorem lp_congr {G H : Int → Int} : ∀ (L : List Int) (f : Bool) (b : Int), (∀ c ∈ L, G c = H c) → lp G L f b = lp H L f b
  | [], f, b, _ => rfl
  | c :: t, f, b, h => by
    simp only [lp, h c List.mem_cons_self]
    exact lp_congr t _ _ fun x hx => h x (List.mem_cons_of_mem _ hx)
theorem vl_eq {l : List Int} {s : ByteArray} (h : duelB l s = true) {p q : Int} (hb : beg (l.length : Int) (bs s) 0 0 = some (p, q)) : vl l 14 s = lp (gv l (vl l 14) s) (sl (l.length : Int) p q) true 0 := by
  obtain ⟨h0, h1, h6, hl, _⟩ := duelB_facts h
  show lp (gv l (vl l 13) s) (slO l s) true 0 = _
  rw [slO_eq hb]
  refine lp_congr _ _ _ fun c hc => ?_
  unfold gv
  rw [vl_more (duel_step h hb hc) (by rw [size_append, sg_size]; omega)]
/-! ### what the best signs are -/
theorem bstL_bs (G : Int → Int) (v : Int) : ∀ (L : List Int) (o : ByteArray), (∀ c ∈ L, c = 73 ∨ c = 79) → bs (bstL G v L o) = bs o ++ L.filter (fun c => decide (G c = v))
  | [], o, _ => by simp [bstL]
  | c :: t, o, h => by
    simp only [bstL]
    rw [bstL_bs G v t _ fun x hx => h x (List.mem_cons_of_mem _ hx)]
    by_cases hv : G c = v
    · rw [if_pos hv, List.filter_cons_of_pos (by simp [hv]), bs_append, sg_bs (h c List.mem_cons_self)]
      simp
    · rw [if_neg hv, List.filter_cons_of_neg (by simp [hv])]
theorem sl_sign {n p q : Int} : ∀ c ∈ sl n p q, c = 73 ∨ c = 79 := fun c hc => by rcases sl_mem hc with ⟨e, _⟩ | ⟨e, _⟩; exact .inl e; exact .inr e
theorem bestB_bs {l : List Int} {s : ByteArray} {p q : Int} (hb : beg (l.length : Int) (bs s) 0 0 = some (p, q)) : bs (bestB l s) = (sl (l.length : Int) p q).filter (fun c => decide (gv l (vl l 14) s c = vl l 14 s)) := by
  unfold bestB
  rw [slO_eq hb, bstL_bs _ _ _ _ sl_sign]
  rfl
theorem best_mem {l : List Int} {s : ByteArray} {p q : Int} (hb : beg (l.length : Int) (bs s) 0 0 = some (p, q)) {c : Int} (hc : c ∈ bs (bestB l s)) : c ∈ sl (l.length : Int) p q := by
  rw [bestB_bs hb] at hc
  exact (List.mem_filter.1 hc).1
theorem best_ne {l : List Int} {s : ByteArray} (h : duelB l s = true) {p q : Int} (hb : beg (l.length : Int) (bs s) 0 0 = some (p, q)) (hne : p < (l.length : Int) ∨ q < p) : bs (bestB l s) ≠ [] := by
  rw [bestB_bs hb]
  have hv := vl_eq h hb
  generalize gv l (vl l 14) s = G at hv ⊢
  generalize vl l 14 s = V at hv ⊢
  generalize (l.length : Int) = n at hv hne ⊢
  intro hf
  rw [List.filter_eq_nil_iff] at hf
  unfold sl at hv hf
  by_cases h1 : p < n <;> by_cases h2 : q < p
  · simp only [h1, h2, ↓reduceIte, List.cons_append, List.nil_append, lp, true_or, Bool.false_eq_true, false_or] at hv hf
    have f1 := hf 73 (by simp)
    have f2 := hf 79 (by simp)
    simp only [decide_eq_true_eq] at f1 f2
    split at hv <;> omega
  · simp only [h1, h2, ↓reduceIte, List.append_nil, lp, true_or] at hv hf
    have f1 := hf 73 (by simp)
    simp only [decide_eq_true_eq] at f1
    omega
  · simp only [h1, h2, ↓reduceIte, List.nil_append, lp, true_or] at hv hf
    have f1 := hf 79 (by simp)
    simp only [decide_eq_true_eq] at f1
    omega
  · omega
theorem cut_sg (t : ByteArray) (j : Nat) (hj : j < (bs t).length) (h : ∀ c ∈ bs t, c = 73 ∨ c = 79) : t.extract j (j + 1) = sg ((bs t)[j]'hj) := by
  apply bs_inj
  rw [sg_bs (h _ (List.getElem_mem hj))]
  have hj' : j < t.data.toList.length := by simpa [bs] using hj
  have e : (bs t)[j]'hj = ((t.data.toList[j]'hj').toNat : Int) := by simp [bs]
  rw [e]
  unfold bs
  rw [ByteArray.data_extract, Array.toList_extract, List.extract_eq_take_drop, Nat.add_sub_cancel_left, List.drop_eq_getElem_cons hj']
  rfl
/-! ### the whole word -/
def dw (l : List Int) : Nat → ByteArray → ByteArray
  | 0, s => s
  | m + 1, s => if (bestB l s).toList = ([] : List UInt8) then s else dw l m (s ++ (bestB l s).extract 0 1)
theorem best_cases {l : List Int} {s : ByteArray} {p q : Int} (hb : beg (l.length : Int) (bs s) 0 0 = some (p, q)) : bestB l s = ⟨#[]⟩ ∨ bestB l s = ⟨#[73]⟩ ∨ bestB l s = ⟨#[79]⟩ ∨ bestB l s = ⟨#[73, 79]⟩ := by
  have h := bestB_bs hb
  have h' : bs (bestB l s) = [] ∨ bs (bestB l s) = [73] ∨ bs (bestB l s) = [79] ∨ bs (bestB l s) = [73, 79] := by
    rw [h]
    unfold sl
    generalize gv l (vl l 14) s = G
    generalize vl l 14 s = V
    by_cases h1 : p < (l.length : Int) <;> by_cases h2 : q < p <;> by_cases h3 : G 73 = V <;> by_cases h4 : G 79 = V <;> simp [h1, h2, h3, h4]
  rcases h' with h | h | h | h
  · exact .inl (bs_inj h)
  · exact .inr (.inl (bs_inj h))
  · exact .inr (.inr (.inl (bs_inj h)))
  · exact .inr (.inr (.inr (bs_inj h)))
theorem best_head {l : List Int} {s : ByteArray} {p q : Int} (hb : beg (l.length : Int) (bs s) 0 0 = some (p, q)) (hne : bs (bestB l s) ≠ []) : ¬ (bestB l s).toList = ([] : List UInt8) ∧ 1 ≤ (bestB l s).size ∧ ∃ c ∈ sl (l.length : Int) p q, (bestB l s).extract 0 1 = sg c := by
  have hlen : 0 < (bs (bestB l s)).length := List.length_pos_iff.2 hne
  refine ⟨?_, by rw [← bs_length]; exact hlen, (bs (bestB l s))[0]'hlen, best_mem hb (List.getElem_mem hlen), cut_sg _ 0 hlen fun c hc => sl_sign c (best_mem hb hc)⟩
  rcases best_cases hb with h | h | h | h <;> rw [h] at hne ⊢
  · exact absurd rfl hne
  · decide +kernel
  · decide +kernel
  · decide +kernel
theorem best_end {l : List Int} {s : ByteArray} {p q : Int} (hb : beg (l.length : Int) (bs s) 0 0 = some (p, q)) (h1 : ¬ p < (l.length : Int)) (h2 : ¬ q < p) : (bestB l s).toList = ([] : List UInt8) := by
  have e : bs (bestB l s) = [] := by rw [bestB_bs hb]; unfold sl; simp only [h1, h2, ↓reduceIte]; rfl
  rw [show bestB l s = ⟨#[]⟩ from bs_inj e]
  decide +kernel
theorem dw_size (l : List Int) : ∀ m s, (dw l m s).size ≤ s.size + m
  | 0, s => Nat.le_refl _
  | m + 1, s => by
    simp only [dw]
    split
    · omega
    · have := dw_size l m (s ++ (bestB l s).extract 0 1)
      rw [size_append, ByteArray.size_extract] at this
      omega
theorem ev_dword (l : List Int) : ∀ (m : Nat) (s : ByteArray), duelB l s = true → 2 * l.length < m + s.size → Ev (fun k => dword k l m s (bestB l s)) (dw l m s)
  | 0, s, h, hm => by
    obtain ⟨_, _, _, hl, _⟩ := duelB_facts h
    omega
  | m + 1, s, h, hm => by
    obtain ⟨h0, h1, h6, hl, p, q, hb⟩ := duelB_facts h
    simp only [dword, dw]
    by_cases he : (bestB l s).toList = ([] : List UInt8)
    · simp only [he, ↓reduceIte]
      exact Ev.now _
    · simp only [he, ↓reduceIte]
      have hne : bs (bestB l s) ≠ [] := by
        intro hz
        rw [show bestB l s = ⟨#[]⟩ from bs_inj hz] at he
        exact he (by decide +kernel)
      obtain ⟨_, hs1, c, hc, hx⟩ := best_head hb hne
      rw [hx]
      have hd := duel_step h hb hc
      simp only [show (1 ≤ ((bestB l s).size : Int) ∧ s.size + (sg c).size ≤ 9223372036854775807) = True from eq_true ⟨by omega, by rw [sg_size]; omega⟩, ↓reduceIte]
      exact Ev.bind (ev_dbest l _ hd) (ev_dword l m _ hd (by rw [size_append, sg_size]; omega))
theorem ev_specWord (l : List Int) : ∀ (m : Nat) (s : ByteArray), duelB l s = true → 2 * l.length < m + s.size → Ev (fun k => spec_DuelWord.l0 k l s) (dw l m s, true)
  | 0, s, h, hm => by
    obtain ⟨_, _, _, hl, _⟩ := duelB_facts h
    omega
  | m + 1, s, h, hm => by
    obtain ⟨h0, h1, h6, hl, p, q, hb⟩ := duelB_facts h
    have e2 : wrap64 (2 * (l.length : Int)) = 2 * (l.length : Int) := wr (by omega) (by omega)
    have b := beg_bounds (l.length : Int) (bs s) 0 0 p q (by omega) (by omega) hb
    rw [bs_length] at b
    simp only [dw]
    by_cases hlt : (s.size : Int) < 2 * (l.length : Int)
    · obtain ⟨he, hs1, c, hc, hx⟩ := best_head hb (best_ne h hb (by omega))
      simp only [he, ↓reduceIte]
      have hd := duel_step h hb hc
      have hs1' : 1 ≤ ((bestB l s).size : Int) := by omega
      have lim : s.size + 1 ≤ 9223372036854775807 := by omega
      have hsz := sg_size c
      rw [hx]
      refine Ev.step (f := fun k => (spec_l11Best.f k l s).bind fun t321 => (if 0 ≤ 1 then (if 1 ≤ (t321.size : Int) then (if s.size + (t321.extract 0 1).size ≤ 9223372036854775807 then (spec_DuelWord.l0 k l (s ++ (t321.extract 0 1))) else (none)) else (none)) else (none))) (fun k => by simp only [spec_DuelWord.l0, e2, hlt, ↓reduceIte]) ?_
      refine Ev.bind (ev_l11Best l s h) ?_
      simp only [hs1', hx, hsz, lim, show (0 ≤ 1) = True by decide, ↓reduceIte]
      exact ev_specWord l m _ hd (by rw [size_append, sg_size]; omega)
    · simp only [best_end hb (by omega) (by omega), ↓reduceIte]
      exact Ev.step (f := fun _ => some (s, true)) (fun k => by simp only [spec_DuelWord.l0, e2, hlt, ↓reduceIte]) (Ev.now _)
theorem bs_prefix (s : ByteArray) (i : Nat) : bs (s.extract 0 i) = (bs s).take i := by
  unfold bs
  rw [ByteArray.data_extract, Array.toList_extract, List.extract_eq_take_drop, List.drop_zero, Nat.sub_zero, List.map_take]
theorem prefix_duel {l : List Int} {s : ByteArray} (h : duelB l s = true) (i : Nat) : duelB l (s.extract 0 i) = true := by
  obtain ⟨h0, h1, h6, hl, p, q, hb⟩ := duelB_facts h
  have e : bs s = (bs s).take i ++ (bs s).drop i := (List.take_append_drop _ _).symm
  rw [e, beg_append] at hb
  obtain ⟨r, hr, _⟩ := Option.bind_eq_some_iff.1 hb
  have hsz : (s.extract 0 i).size ≤ s.size := by rw [← bs_length, bs_prefix, List.length_take, bs_length]; omega
  unfold duelB isBeg
  rw [h0, bs_prefix, hr]
  simp only [Bool.true_and, Bool.and_eq_true, decide_eq_true_eq, Option.isSome_some, and_true]
  omega
def popd (l : List Int) (s : ByteArray) (i : Nat) : Int := (stk ((bs s).take (i + 1)) l [] 0).2
def scr (l : List Int) (s : ByteArray) : Nat → Nat → Int → Int → Int × Int
  | 0, _, s0, s1 => (s0, s1)
  | d + 1, i, s0, s1 => if i % 2 = 0 then scr l s d (i + 1) (wrap64 (s0 + popd l s i)) s1 else scr l s d (i + 1) s0 (wrap64 (s1 + popd l s i))
theorem popd_eq (l : List Int) (s : ByteArray) (i : Nat) (hi : i < s.size) : popd l s i = if bt s (i : Int) = 73 then 0 else (stk ((bs s).take i) l [] 0).1.getLastD 0 := by
  unfold popd
  rw [show (bs s).take (i + 1) = (bs s).take i ++ [bt s (i : Int)] by rw [← bs_get s i hi]; exact (List.take_append_getElem (by rw [bs_length]; exact hi)).symm]
  exact stk_snoc _ _ _ _ _
theorem popd_bound {l : List Int} {s : ByteArray} (h : duelB l s = true) (i : Nat) (hi : i < s.size) : 0 ≤ popd l s i ∧ popd l s i ≤ 7 := by
  rw [popd_eq l s i hi]
  split
  · exact ⟨by decide, by decide⟩
  · refine last_bound (stk_bound _ _ _ _ (fun x hx => ?_) (fun x hx => absurd hx (by simp)))
    obtain ⟨h0, _⟩ := duelB_facts h
    have h7 := (ordB_len h0).2
    have := ordB_range h0 x hx
    omega
theorem ev_iscore (l : List Int) (s : ByteArray) (h : duelB l s = true) : ∀ (d i : Nat) (s0 s1 : Int), i + d = s.size → Ev (fun k => iscore k l s d i s0 s1) (scr l s d i s0 s1)
  | 0, _, _, _, _ => Ev.now _
  | d + 1, i, s0, s1, hi => by
    obtain ⟨h0, h1, h6, hl, _⟩ := duelB_facts h
    simp only [iscore, scr]
    have hp := prefix_duel h (i + 1)
    have hsz : (s.extract 0 (i + 1)).size ≤ s.size := by rw [← bs_length, bs_prefix, List.length_take, bs_length]; omega
    refine Ev.bind (ev_stackAfter l (s.extract 0 (i + 1)) hp (by omega)) ?_
    rw [show (stk (bs (s.extract 0 (i + 1))) l [] 0).2 = popd l s i by rw [bs_prefix]; rfl]
    split
    · exact ev_iscore l s h d (i + 1) _ _ (by omega)
    · exact ev_iscore l s h d (i + 1) _ _ (by omega)
theorem ev_sscore (l : List Int) (s : ByteArray) (h : duelB l s = true) : ∀ (d i : Nat) (s0 s1 : Int), i + d = s.size → 0 ≤ s0 → s0 ≤ 7 * (i : Int) → 0 ≤ s1 → s1 ≤ 7 * (i : Int) → Ev (fun k => sscore k l s d i s0 s1) (scr l s d i s0 s1)
  | 0, _, _, _, _, _, _, _, _ => Ev.now _
  | d + 1, i, s0, s1, hi, a0, a1, b0, b1 => by
    obtain ⟨h0, h1, h6, hl, p, q, hb⟩ := duelB_facts h
    have hlt : i < s.size := by omega
    have hpb := popd_bound h i hlt
    have hpe := popd_eq l s i hlt
    have hp := prefix_duel h i
    have hsz : (s.extract 0 i).size ≤ s.size := by rw [← bs_length, bs_prefix, List.length_take, bs_length]; omega
    have e : bs s = (bs s).take i ++ (bs s).drop i := (List.take_append_drop _ _).symm
    have hb2 := hb
    rw [e, beg_append] at hb2
    obtain ⟨⟨p', q'⟩, hr, hb3⟩ := Option.bind_eq_some_iff.1 hb2
    rw [bs_drop s i hlt] at hb3
    simp only [beg] at hb3
    simp only [sscore, scr]
    by_cases hO : bt s (i : Int) = 79
    · have hq : q' < p' := by
        rw [hO, if_neg (by decide), if_pos rfl] at hb3
        by_cases hq : q' < p'
        · exact hq
        · rw [if_neg hq] at hb3
          cases hb3
      have hh := stk_high (l.length : Int) ((bs s).take i) l [] 0 0 0 p' q' hr (by simp)
      have hst := ev_l11Stack l (s.extract 0 i) hp (by omega)
      rw [bs_prefix] at hst
      have hlen := stk_len ((bs s).take i) l [] 0
      rw [List.length_take, bs_length, List.length_nil] at hlen
      rw [hO, if_neg (show ¬ ((79 : Int) = 73) by decide)] at hpe
      simp only [hO, ↓reduceIte]
      refine Ev.bind hst ?_
      generalize (stk ((bs s).take i) l [] 0).1 = t at hh hpe hlen ⊢
      simp only [show (0 < t.length ∧ t.length ≤ 1000000) = True from eq_true ⟨by omega, by omega⟩, ↓reduceIte]
      rw [show rd t ((t.length : Int) - 1) = popd l s i by
        rw [hpe]
        rcases snoc_cases t with rfl | ⟨m, x, rfl⟩
        · simp at hh; omega
        · rw [show (((m ++ [x]).length : Int) - 1) = (m.length : Int) by simp, rd_nat]; simp]
      split
      · exact ev_sscore l s h d (i + 1) _ _ (by omega) (by rw [wr (by omega) (by omega)]; omega) (by rw [wr (by omega) (by omega)]; omega) b0 (by omega)
      · exact ev_sscore l s h d (i + 1) _ _ (by omega) a0 (by omega) (by rw [wr (by omega) (by omega)]; omega) (by rw [wr (by omega) (by omega)]; omega)
    · have hI : bt s (i : Int) = 73 := by
        by_cases hI : bt s (i : Int) = 73
        · exact hI
        · rw [if_neg hI, if_neg hO] at hb3
          cases hb3
      rw [if_pos hI] at hpe
      simp only [hO, ↓reduceIte, hpe, Int.add_zero]
      rw [wr (i := s0) (by omega) (by omega), wr (i := s1) (by omega) (by omega)]
      split
      · exact ev_sscore l s h d (i + 1) _ _ (by omega) a0 (by omega) b0 (by omega)
      · exact ev_sscore l s h d (i + 1) _ _ (by omega) a0 (by omega) b0 (by omega)
theorem both_ScoresOf (l : List Int) (s : ByteArray) (hs : s.size ≤ 1048576) : ∃ r, Ev (fun k => spec_ScoresOf.f k l s) r ∧ Ev (fun k => impl_ScoresOf.f k l s) r := by
  unfold spec_ScoresOf.f impl_ScoresOf.f
  by_cases h : duelB l s = true
  · refine ⟨((scr l s s.size 0 0 0).1, (scr l s s.size 0 0 0).2, true), ?_, ?_⟩
    · refine Ev.bind (ev_l11Good l s hs) ?_
      simp only [h, hs, ↓reduceIte]
      exact Ev.bind (ev_sscore l s h s.size 0 0 0 (by omega) (by omega) (by omega) (by omega) (by omega)) (Ev.now _)
    · refine Ev.bind (ev_isDuel l s hs) ?_
      simp only [h, hs, ↓reduceIte]
      exact Ev.bind (ev_iscore l s h s.size 0 0 0 (by omega)) (Ev.now _)
  · refine ⟨(0, 0, false), ?_, ?_⟩
    · refine Ev.bind (ev_l11Good l s hs) ?_
      simp only [h, Bool.false_eq_true, ↓reduceIte]
      exact Ev.now _
    · refine Ev.bind (ev_isDuel l s hs) ?_
      simp only [h, Bool.false_eq_true, ↓reduceIte]
      exact Ev.now _
/-! ### the whole word, and what its scores tell -/
theorem dw_all (l : List Int) : ∀ (m : Nat) (s : ByteArray), duelB l s = true → 2 * l.length < m + s.size →
    duelB l (dw l m s) = true ∧ s.size ≤ (dw l m s).size ∧ (bs (dw l m s)).take s.size = bs s ∧ beg (l.length : Int) (bs (dw l m s)) 0 0 = some ((l.length : Int), (l.length : Int)) ∧
    ∀ a b : Int, 0 ≤ a → a ≤ 7 * (s.size : Int) → 0 ≤ b → b ≤ 7 * (s.size : Int) →
      ∃ a' b' : Int, scr l (dw l m s) ((dw l m s).size - s.size) s.size a b = (a', b') ∧ (if s.size % 2 = 0 then (a' - a) - (b' - b) else (b' - b) - (a' - a)) = vl l 14 s ∧ 0 ≤ a' ∧ a' ≤ 7 * ((dw l m s).size : Int) ∧ 0 ≤ b' ∧ b' ≤ 7 * ((dw l m s).size : Int)
  | 0, s, h, hm => by
    obtain ⟨_, _, _, hz, _⟩ := duelB_facts h
    omega
  | m + 1, s, h, hm => by
    obtain ⟨ho, h1, h6, hz, p, q, hb⟩ := duelB_facts h
    have bb := beg_bounds (l.length : Int) (bs s) 0 0 p q (Int.le_refl _) (by omega) hb
    by_cases hend : ¬ p < (l.length : Int) ∧ ¬ q < p
    · have e := best_end hb hend.1 hend.2
      have ed : dw l (m + 1) s = s := by simp only [dw, e, ↓reduceIte]
      have hp : p = (l.length : Int) := by omega
      have hq : q = (l.length : Int) := by omega
      rw [ed]
      refine ⟨h, Nat.le_refl _, by rw [List.take_of_length_le (by rw [bs_length]; exact Nat.le_refl _)], by rw [hb, hp, hq], ?_⟩
      intro a b ha ha' hb0 hb'
      refine ⟨a, b, by rw [Nat.sub_self]; rfl, ?_, ha, ha', hb0, hb'⟩
      have hv := vl_eq h hb
      have hs : sl (l.length : Int) p q = [] := by
        unfold sl
        rw [if_neg hend.1, if_neg hend.2]
        rfl
      rw [hs] at hv
      simp only [lp] at hv
      rw [hv]
      split <;> omega
    · have hne := best_ne h hb (by omega)
      obtain ⟨n1, _, _⟩ := best_head hb hne
      have hlen : 0 < (bs (bestB l s)).length := List.length_pos_iff.2 hne
      have hsg : ∀ c ∈ bs (bestB l s), c = 73 ∨ c = 79 := fun c hc => sl_sign c (best_mem hb hc)
      have hvl : ∀ c ∈ bs (bestB l s), gv l (vl l 14) s c = vl l 14 s := fun c hc => by
        rw [bestB_bs hb] at hc
        exact of_decide_eq_true (List.mem_filter.1 hc).2
      obtain ⟨c, hce⟩ : ∃ c, c = (bs (bestB l s))[0] := ⟨_, rfl⟩
      have hcm : c ∈ bs (bestB l s) := by rw [hce]; exact List.getElem_mem hlen
      have hx : (bestB l s).extract 0 1 = sg c := by rw [hce]; exact cut_sg _ 0 hlen hsg
      have hcs := hsg c hcm
      have hv := hvl c hcm
      have hs' := duel_step h hb (best_mem hb hcm)
      have hz' : (s ++ sg c).size = s.size + 1 := by rw [size_append, sg_size]
      obtain ⟨i1, i2, i3, i4, i5⟩ := dw_all l m (s ++ sg c) hs' (by omega)
      have ed : dw l (m + 1) s = dw l m (s ++ sg c) := by simp only [dw, n1, hx, ↓reduceIte]
      rw [ed]
      generalize dw l m (s ++ sg c) = w at i1 i2 i3 i4 i5 ⊢
      rw [hz'] at i2 i3 i5
      rw [bs_append, sg_bs hcs] at i3
      have t1 : (bs w).take s.size = bs s := by
        have := congrArg (List.take s.size) i3
        rw [List.take_take, Nat.min_eq_left (by omega)] at this
        rw [this, ← bs_length s, List.take_left']
        rfl
      have hbt : bt w (s.size : Int) = c := by
        rw [← bs_get w s.size (by omega)]
        have := congrArg (fun x => x[s.size]?) i3
        simp only [List.getElem?_take] at this
        rw [if_pos (by omega), ← bs_length s, List.getElem?_concat_length, bs_length] at this
        rw [List.getElem?_eq_getElem (by rw [bs_length]; omega)] at this
        exact Option.some.inj this
      have hpop := popd_eq l w s.size (by omega)
      rw [t1, hbt] at hpop
      have hlb := last_bound (stk_bound (bs s) l [] 0 (fun x hx => by have := ordB_range ho x hx; omega) (fun x hx => by cases hx))
      have hvb := vl_bound ho 14 (by decide) (s ++ sg c)
      unfold gv at hv
      refine ⟨i1, by omega, t1, i4, ?_⟩
      intro a b ha ha' hb0 hb'
      obtain ⟨d, hd⟩ : ∃ d, w.size - s.size = d + 1 := ⟨w.size - s.size - 1, by omega⟩
      have hd' : w.size - (s.size + 1) = d := by omega
      rw [hd'] at i5
      rw [hd]
      obtain ⟨g, hg⟩ : ∃ g, g = popd l w s.size := ⟨_, rfl⟩
      rw [← hg] at hpop
      have hg7 : 0 ≤ g ∧ g ≤ 7 := by
        rw [hpop]
        split <;> omega
      have hgv : g - vl l 14 (s ++ sg c) = vl l 14 s := by
        rw [← hv]
        have e : (if c = 79 then (stk (bs s) l [] 0).1.getLastD 0 else 0) = g := by
          rw [hpop]
          rcases hcs with rfl | rfl <;> simp
        rw [e, wr (by omega) (by omega)]
      simp only [scr, ← hg]
      by_cases hpar : s.size % 2 = 0
      · have hpar' : ¬ (s.size + 1) % 2 = 0 := by omega
        rw [if_pos hpar, wr (by omega) (by omega)]
        obtain ⟨a', b', f1, f2, f3⟩ := i5 (a + g) b (by omega) (by omega) hb0 (by omega)
        rw [if_neg hpar'] at f2
        exact ⟨a', b', f1, by rw [if_pos hpar]; omega, f3⟩
      · have hpar' : (s.size + 1) % 2 = 0 := by omega
        rw [if_neg hpar, wr (by omega) (by omega)]
        obtain ⟨a', b', f1, f2, f3⟩ := i5 a (b + g) ha (by omega) (by omega) (by omega)
        rw [if_pos hpar'] at f2
        exact ⟨a', b', f1, by rw [if_neg hpar]; omega, f3⟩
/-! ### the number of words -/
def nsum (G : Int → Int) : List Int → Int → Int
  | [], a => a
  | c :: t, a => nsum G t (wrap64 (a + G c))
def nw (l : List Int) : Nat → ByteArray → Int
  | 0, _ => 0
  | m + 1, s => max (nsum (fun c => nw l m (s ++ sg c)) (bs (bestB l s)) 0) 1
theorem nsum_bound (G : Int → Int) (B : Int) (hB : B ≤ 1000000000) (hG : ∀ c, 0 ≤ G c ∧ G c ≤ B) : ∀ (L : List Int) (a : Int), L.length ≤ 2 → 0 ≤ a → a ≤ 10000000000 → a ≤ nsum G L a ∧ nsum G L a ≤ a + L.length * B
  | [], a, _, h0, _ => by simp [nsum]
  | c :: t, a, hl, h0, ha => by
    simp only [nsum]
    have hc := hG c
    rw [wr (by omega) (by omega)]
    have hl' : t.length ≤ 1 := by simpa using hl
    cases t with
    | nil => simp only [nsum, List.length_singleton, List.length_nil]; omega
    | cons d u =>
      obtain rfl : u = [] := by cases u with | nil => rfl | cons x y => simp at hl'
      have hd := hG d
      simp only [nsum, List.length_cons, List.length_nil]
      rw [wr (by omega) (by omega)]
      omega
theorem nw_bound (l : List Int) : ∀ m, m ≤ 25 → ∀ s, 0 ≤ nw l m s ∧ nw l m s ≤ 2 ^ m
  | 0, _, s => ⟨by simp [nw], by simp [nw]⟩
  | m + 1, hm, s => by
    have hp : (2 : Int) ^ m ≤ 2 ^ 24 := by
      have := Nat.pow_le_pow_right (show 0 < 2 by decide) (show m ≤ 24 by omega)
      exact_mod_cast this
    have hp1 : (1 : Int) ≤ 2 ^ m := by
      have := Nat.one_le_two_pow (n := m)
      exact_mod_cast this
    have e24 : (2 : Int) ^ 24 = 16777216 := by decide
    have hs : (bs (bestB l s)).length ≤ 2 := by rw [bs_length]; exact bestB_size l s
    have := nsum_bound (fun c => nw l m (s ++ sg c)) (2 ^ m) (by omega) (fun c => nw_bound l m (by omega) _) (bs (bestB l s)) 0 hs (by decide) (by decide)
    have hmul : ((bs (bestB l s)).length : Int) * 2 ^ m ≤ 2 * 2 ^ m := Int.mul_le_mul_of_nonneg_right (by omega) (by omega)
    simp only [nw]
    rw [Int.pow_succ]
    omega
theorem nw_pos (l : List Int) (m : Nat) (s : ByteArray) : 1 ≤ nw l (m + 1) s := by
  simp only [nw]
  omega
theorem ev_wsum (G : Nat → Int → Option Int) (H : Int → Int) : ∀ (L : List Int) (a : Int), (∀ c ∈ L, (c = 73 ∨ c = 79) ∧ Ev (fun k => G k c) (H c)) → Ev (fun k => wsum (G k) L a) (nsum H L a)
  | [], a, _ => Ev.now _
  | c :: t, a, h => by
    simp only [wsum, nsum, show (c = 73 ∨ c = 79) = True from eq_true (h c List.mem_cons_self).1, ↓reduceIte]
    exact Ev.bind (h c List.mem_cons_self).2 (ev_wsum G H t _ fun x hx => h x (List.mem_cons_of_mem _ hx))
theorem ev_dwords (l : List Int) : ∀ (m : Nat) (s : ByteArray), duelB l s = true → 2 * l.length < m + s.size → Ev (fun k => dwords k l m s) (nw l m s)
  | 0, s, h, hm => by
    obtain ⟨_, _, _, hl, _⟩ := duelB_facts h
    omega
  | m + 1, s, h, hm => by
    obtain ⟨h0, h1, h6, hl, p, q, hb⟩ := duelB_facts h
    simp only [dwords, nw]
    refine Ev.bind (ev_dbest l s h) ?_
    simp only [show ((bestB l s).size ≤ 2 ∧ s.size ≤ 1000) = True from eq_true ⟨bestB_size l s, by omega⟩, ↓reduceIte]
    rw [show bytesOf (bestB l s) = bs (bestB l s) from rfl]
    refine Ev.bind (ev_wsum (fun k c => dwords k l m (s ++ sg c)) (fun c => nw l m (s ++ sg c)) _ _ fun c hc => ?_) (Ev.now _)
    have hc := best_mem hb hc
    exact ⟨sl_sign c hc, ev_dwords l m _ (duel_step h hb hc) (by rw [size_append, sg_size]; omega)⟩
theorem ev_words_l0 (l : List Int) (s t : ByteArray) (hs : s.size ≤ 1000) (ht : t.size ≤ 2) (H : Int → Int) (hH : ∀ c ∈ bs t, (c = 73 ∨ c = 79) ∧ Ev (fun k => spec_l11Words.f k l (s ++ sg c)) (H c)) : ∀ (d j : Nat) (a : Int), j + d = (bs t).length → Ev (fun k => spec_l11Words.l0 k l s a t (j : Int)) (nsum H ((bs t).drop j) a)
  | 0, j, a, hj => by
    rw [List.drop_of_length_le (by omega)]
    have c : ¬ (j : Int) < (t.size : Int) := by rw [← bs_length]; omega
    exact Ev.step (fun k => by simp only [spec_l11Words.l0, c, ↓reduceIte] <;> rfl) (Ev.now _)
  | d + 1, j, a, hj => by
    have hl2 : (bs t).length = t.size := bs_length t
    have c : (j : Int) < (t.size : Int) := by omega
    have c0 : 0 ≤ (j : Int) := by omega
    have e1 : wrap64 ((j : Int) + 1) = ((j + 1 : Nat) : Int) := wj (by omega)
    have c1 : (j : Int) ≤ ((j + 1 : Nat) : Int) := by omega
    have c2 : ((j + 1 : Nat) : Int) ≤ (t.size : Int) := by omega
    have hj' : j < (bs t).length := by omega
    have e2 := cut_sg t j hj' fun c hc => (hH c hc).1
    rw [List.drop_eq_getElem_cons hj']
    have hsz := sg_size ((bs t)[j]'hj')
    have lim : s.size + 1 ≤ 9223372036854775807 := by omega
    refine Ev.step (f := fun k => (spec_l11Words.f k l (s ++ sg ((bs t)[j]'hj'))).bind fun u => spec_l11Words.l0 k l s (wrap64 (a + u)) t ((j + 1 : Nat) : Int)) (fun k => ?_) ?_
    · simp only [spec_l11Words.l0, c, c0, e1, c1, c2, Int.toNat_natCast, e2, hsz, lim, ↓reduceIte]
    · refine Ev.bind (hH _ (List.getElem_mem hj')).2 ?_
      simp only [nsum]
      exact ev_words_l0 l s t hs ht H hH d (j + 1) _ (by omega)
theorem ev_l11Words (l : List Int) : ∀ (m : Nat) (s : ByteArray), m ≤ 20 → duelB l s = true → 2 * l.length < m + s.size → Ev (fun k => spec_l11Words.f k l s) (nw l m s)
  | 0, s, _, h, hm => by
    obtain ⟨_, _, _, hl, _⟩ := duelB_facts h
    omega
  | m + 1, s, hm0, h, hm => by
    obtain ⟨h0, h1, h6, hl, p, q, hb⟩ := duelB_facts h
    have e2 : wrap64 (2 * (l.length : Int)) = 2 * (l.length : Int) := wr (by omega) (by omega)
    have b := beg_bounds (l.length : Int) (bs s) 0 0 p q (by omega) (by omega) hb
    rw [bs_length] at b
    by_cases hend : (s.size : Int) = 2 * (l.length : Int)
    · have g1 : ¬ p < (l.length : Int) := by omega
      have g2 : ¬ q < p := by omega
      have e : bs (bestB l s) = [] := by rw [bestB_bs hb]; unfold sl; simp only [g1, g2, ↓reduceIte]; rfl
      simp only [nw, e, nsum]
      exact Ev.step (f := fun _ => some 1) (fun k => by simp only [spec_l11Words.f, e2, hend, ↓reduceIte]) (Ev.now _)
    · refine Ev.step (f := fun k => (spec_l11Best.f k l s).bind fun t302 => (spec_l11Words.l0 k l s 0 t302 0)) (fun k => by simp only [spec_l11Words.f, e2, hend, ↓reduceIte]) ?_
      refine Ev.bind (ev_l11Best l s h) ?_
      have hne := best_ne h hb (by omega)
      have r := ev_words_l0 l s (bestB l s) (by omega) (bestB_size l s) (fun c => nw l m (s ++ sg c)) (fun c hc => ⟨sl_sign c (best_mem hb hc), ev_l11Words l m _ (by omega) (duel_step h hb (best_mem hb hc)) (by rw [size_append, sg_size]; omega)⟩) _ 0 0 (Nat.zero_add _)
      rw [List.drop_zero] at r
      have hpos : 1 ≤ nsum (fun c => nw l m (s ++ sg c)) (bs (bestB l s)) 0 := by
        have hlen : (bs (bestB l s)).length ≤ 2 := by rw [bs_length]; exact bestB_size l s
        obtain ⟨m', rfl⟩ : ∃ m', m = m' + 1 := ⟨m - 1, by omega⟩
        cases hbs : bs (bestB l s) with
        | nil => exact absurd hbs hne
        | cons c t =>
          rw [hbs] at hlen
          simp only [nsum]
          have h1 := nw_pos l m' (s ++ sg c)
          have hp : (2 : Int) ^ (m' + 1) ≤ 2 ^ 24 := by
            have := Nat.pow_le_pow_right (show 0 < 2 by decide) (show m' + 1 ≤ 24 by omega)
            exact_mod_cast this
          have e24 : (2 : Int) ^ 24 = 16777216 := by decide
          have hb2 := nw_bound l (m' + 1) (by omega) (s ++ sg c)
          rw [wr (by omega) (by omega)]
          have := (nsum_bound (fun c => nw l (m' + 1) (s ++ sg c)) 16777216 (by decide) (fun c => by have := nw_bound l (m' + 1) (by omega) (s ++ sg c); omega) t (0 + nw l (m' + 1) (s ++ sg c)) (by simp at hlen; omega) (by omega) (by omega)).1
          omega
      simp only [nw]
      rw [show max (nsum (fun c => nw l m (s ++ sg c)) (bs (bestB l s)) 0) 1 = nsum (fun c => nw l m (s ++ sg c)) (bs (bestB l s)) 0 by omega]
      exact r
theorem ev_DuelValue (l : List Int) (s : ByteArray) (hs : s.size ≤ 1048576) : Ev (fun k => impl_DuelValue.f k l s) (if duelB l s = true then (vl l 14 s, true) else (0, false)) := by
  unfold impl_DuelValue.f
  refine Ev.bind (ev_isDuel l s hs) ?_
  by_cases h : duelB l s = true
  · obtain ⟨_, _, h6, _⟩ := duelB_facts h
    simp only [h, ↓reduceIte]
    exact Ev.bind (ev_dval l 14 s h (by omega)) (Ev.now _)
  · simp only [h, Bool.false_eq_true, ↓reduceIte]
    exact Ev.now _
/-! ### the sorted order -/
theorem iota_get (n i : Nat) (h : i < n) : rd (iota 1 n) (i : Int) = 1 + (i : Int) := rd_iota 1 n i h
theorem ev_l2Sorted (n : Nat) (hn : n ≤ 1000) : Ev (fun k => spec_l2Sorted.f k (n : Int)) (iota 1 n) := by
  have go : ∀ (m j : Nat), j + m = n → Ev (fun k => spec_l2Sorted.l0 k (n : Int) (iota 1 j) (1 + (j : Int))) (iota 1 n) := by
    intro m
    induction m with
    | zero =>
      intro j hj
      have c : ¬ 1 + (j : Int) ≤ (n : Int) := by omega
      obtain rfl : j = n := by omega
      exact Ev.step (f := fun _ => some (iota 1 j)) (fun k => by simp only [spec_l2Sorted.l0, c, ↓reduceIte]) (Ev.now _)
    | succ m ih =>
      intro j hj
      have c : 1 + (j : Int) ≤ (n : Int) := by omega
      have lim : (iota 1 j).length < 17592186044416 := by rw [iota_length]; omega
      have e := Aside0.mk (show wrap64 (1 + (j : Int) + 1) = 1 + ((j + 1 : Nat) : Int) from by rw [wr (by omega) (by omega)]; omega)
      refine Ev.step (fun k => ?_) (ih (j + 1) (by omega))
      simp only [spec_l2Sorted.l0, c, lim, e.out, ↓reduceIte]
      rw [iota_succ]
  have := go n 0 (by omega)
  exact this
theorem ev_sorted (n : Nat) (hn : n ≤ 1000) : Ev (fun k => impl_sorted.f k (n : Int)) (iota 1 n) := by
  have go : ∀ (m j : Nat), j + m = n → Ev (fun k => impl_sorted.l0 k (iota 1 j) (n : Int) (j : Int)) (iota 1 n) := by
    intro m
    induction m with
    | zero =>
      intro j hj
      have c : ¬ (j : Int) < (n : Int) := by omega
      obtain rfl : j = n := by omega
      exact Ev.step (f := fun _ => some (iota 1 j)) (fun k => by simp only [impl_sorted.l0, c, ↓reduceIte]) (Ev.now _)
    | succ m ih =>
      intro j hj
      have c : (j : Int) < (n : Int) := by omega
      have lim : (iota 1 j).length < 17592186044416 := by rw [iota_length]; omega
      have e := Aside0.mk (show wrap64 ((j : Int) + 1) = ((j + 1 : Nat) : Int) from wj (by omega))
      refine Ev.step (fun k => ?_) (ih (j + 1) (by omega))
      simp only [impl_sorted.l0, c, lim, e.out, ↓reduceIte]
      rw [iota_succ, show (1 : Int) + (j : Int) = ((j + 1 : Nat) : Int) by omega]
  exact go n 0 (by omega)
/-! ### all orders of so many numbers -/
def fct : Nat → Nat
  | 0 => 1
  | n + 1 => (n + 1) * fct n
theorem fct_pos : ∀ n, 0 < fct n
  | 0 => by decide
  | n + 1 => Nat.mul_pos (by omega) (fct_pos n)
theorem ev_factorial (m : Nat) (h : m ≤ 7) : Ev (fun k => impl_factorial.f k (m : Int)) (fct m : Int) := by
  have hm : m = 0 ∨ m = 1 ∨ m = 2 ∨ m = 3 ∨ m = 4 ∨ m = 5 ∨ m = 6 ∨ m = 7 := by omega
  rcases hm with rfl | rfl | rfl | rfl | rfl | rfl | rfl | rfl <;> exact Ev.of (fun k => impl_factorial.mono _ k) (k := 20) (by decide +kernel)
theorem fct_le : ∀ m, m ≤ 7 → fct m ≤ 5040 := by
  intro m h
  have hm : m = 0 ∨ m = 1 ∨ m = 2 ∨ m = 3 ∨ m = 4 ∨ m = 5 ∨ m = 6 ∨ m = 7 := by omega
  rcases hm with rfl | rfl | rfl | rfl | rfl | rfl | rfl | rfl <;> decide
/-- The order with a rank, out of the numbers that are left. -/
def unr : Nat → List Int → Nat → List Int
  | 0, _, _ => []
  | m + 1, left, k => rd left ((k / fct m : Nat) : Int) :: unr m (left.eraseIdx (k / fct m)) (k % fct m)
theorem unr_len : ∀ m left k, (unr m left k).length = m
  | 0, _, _ => rfl
  | m + 1, left, k => by rw [unr, List.length_cons, unr_len m]
theorem unr_perm : ∀ (m : Nat) (left : List Int) (k : Nat), left.length = m → k < fct m → (unr m left k).Perm left
  | 0, left, k, hl, _ => by
    obtain rfl := List.eq_nil_of_length_eq_zero hl
    exact List.Perm.refl _
  | m + 1, left, k, hl, hk => by
    have hq : k / fct m < left.length := by
      rw [hl]
      exact Nat.div_lt_of_lt_mul (by rw [Nat.mul_comm]; exact hk)
    have ih := unr_perm m (left.eraseIdx (k / fct m)) (k % fct m) (by rw [List.length_eraseIdx_of_lt hq]; omega) (Nat.mod_lt _ (fct_pos m))
    rw [unr, rd_get left _ hq]
    refine (List.Perm.cons _ ih).trans ?_
    rw [List.eraseIdx_eq_take_drop_succ]
    have h1 : left = left.take (k / fct m) ++ left[k / fct m] :: left.drop (k / fct m + 1) := by
      rw [← List.drop_eq_getElem_cons hq, List.take_append_drop]
    exact (List.perm_middle.symm.trans (by rw [← h1]))
theorem ev_orderAt0 : ∀ (m : Nat) (left out : List Int) (k : Nat), left.length = m → m ≤ 7 → k < fct m → out.length + m ≤ 100 → Ev (fun K => impl_orderAt.l0 K (m + 1) (k : Int) left out) (out ++ unr m left k)
  | 0, left, out, k, hl, _, _, _ => by
    have c : ¬ 0 < left.length := by omega
    rw [unr, List.append_nil]
    exact Ev.congr (f := fun _ => some out) (fun K => by simp only [impl_orderAt.l0, c, ↓reduceIte]) (Ev.now _)
  | m + 1, left, out, k, hl, hm, hk, ho => by
    have c : 0 < left.length := by omega
    have hq : k / fct m < left.length := by
      rw [hl]
      exact Nat.div_lt_of_lt_mul (by rw [Nat.mul_comm]; exact hk)
    have hkb := fct_le (m + 1) hm
    have hp := fct_pos m
    have hdk : k / fct m ≤ k := Nat.div_le_self _ _
    obtain ⟨q, hqe⟩ : ∃ q : Nat, q = k / fct m := ⟨_, rfl⟩
    rw [← hqe] at hq hdk
    have HQE := Aside0.mk hqe
    clear hqe
    have e1 := Aside0.mk (show wrap64 ((left.length : Int) - 1) = (m : Int) from by rw [wr (by omega) (by omega)]; omega)
    have e2 := Aside0.mk (show wrap64 (Int.tdiv (k : Int) (fct m : Int)) = (q : Int) from by rw [← Int.ofNat_tdiv, ← HQE.out, wr (by omega) (by omega)])
    have e3 := Aside0.mk (show Int.tmod (k : Int) (fct m : Int) = ((k % fct m : Nat) : Int) from (Int.ofNat_tmod _ _).symm)
    have n0 : ¬ (fct m : Int) = 0 := by omega
    have c2 : 0 ≤ (q : Int) ∧ (q : Int) < (left.length : Int) ∧ out.length < 1000 := ⟨by omega, by omega, by omega⟩
    have ih := ev_orderAt0 m (left.eraseIdx q) (out ++ [rd left (q : Int)]) (k % fct m) (by rw [List.length_eraseIdx_of_lt hq]; omega) (by omega) (Nat.mod_lt _ hp) (by rw [List.length_append, List.length_singleton]; omega)
    rw [unr, ← HQE.out, List.append_cons]
    refine Ev.congr (f := fun K => (impl_factorial.f K (m : Int)).bind fun p => if p = 0 then none else if 0 ≤ wrap64 (Int.tdiv (k : Int) p) ∧ wrap64 (Int.tdiv (k : Int) p) < (left.length : Int) ∧ out.length < 1000 then impl_orderAt.l0 K (m + 1) (Int.tmod (k : Int) p) (left.eraseIdx (wrap64 (Int.tdiv (k : Int) p)).toNat) (out ++ [rd left (wrap64 (Int.tdiv (k : Int) p))]) else none) (fun K => ?_) (Ev.bind (ev_factorial m (by omega)) ?_)
    · rw [impl_orderAt.l0, if_pos c, e1.out]
    · simp only [if_neg n0, e2.out, e3.out, if_pos c2, Int.toNat_natCast]
      exact ih
theorem ev_orderAt (n k : Nat) (h1 : 1 ≤ n) (h7 : n ≤ 7) (hk : k < fct n) : Ev (fun K => impl_orderAt.f K (n : Int) (k : Int)) (unr n (iota 1 n) k) := by
  unfold impl_orderAt.f
  refine Ev.bind (ev_sorted n (by omega)) ?_
  have c : 0 < (iota 1 n).length := by rw [iota_length]; omega
  simp only [if_pos c]
  have := ev_orderAt0 n (iota 1 n) [] k (iota_length _ _) h7 hk (by simp; omega)
  rw [List.nil_append] at this
  rw [iota_length]
  exact this
/-- All orders of n numbers. -/
def ords (n : Nat) : List (List Int) := (List.range (fct n)).map (unr n (iota 1 n))
theorem ords_len (n : Nat) : (ords n).length = fct n := by simp [ords]
theorem ords_take (n j : Nat) (h : j < fct n) : (List.range (j + 1)).map (unr n (iota 1 n)) = (List.range j).map (unr n (iota 1 n)) ++ [unr n (iota 1 n) j] := by
  rw [List.range_succ, List.map_append]
  rfl
theorem ev_allOrders (n : Nat) (h1 : 1 ≤ n) (h7 : n ≤ 7) : Ev (fun k => impl_allOrders.f k (n : Int)) (ords n) := by
  have hb := fct_le n h7
  have go : ∀ (m j : Nat), j + m = fct n → Ev (fun k => impl_allOrders.l0 k (n : Int) ((List.range j).map (unr n (iota 1 n))) (fct n : Int) (j : Int)) (ords n) := by
    intro m
    induction m with
    | zero =>
      intro j hj
      have c : ¬ (j : Int) < (fct n : Int) := by omega
      obtain rfl : j = fct n := by omega
      exact Ev.step (f := fun _ => some (ords n)) (fun k => by simp only [impl_allOrders.l0, c, ↓reduceIte]; rfl) (Ev.now _)
    | succ m ih =>
      intro j hj
      have c : (j : Int) < (fct n : Int) := by omega
      have lim : ((List.range j).map (unr n (iota 1 n))).length < 5864062014805 := by rw [List.length_map, List.length_range]; omega
      have e := Aside0.mk (show wrap64 ((j : Int) + 1) = ((j + 1 : Nat) : Int) from wj (by omega))
      have nx := ih (j + 1) (by omega)
      rw [ords_take n j (by omega)] at nx
      refine Ev.step (f := fun k => (impl_orderAt.f k (n : Int) (j : Int)).bind fun t692 => (if ((List.range j).map (unr n (iota 1 n))).length < 5864062014805 then (impl_allOrders.l0 k (n : Int) ((List.range j).map (unr n (iota 1 n)) ++ [t692]) (fct n : Int) ((j + 1 : Nat) : Int)) else (none))) (fun k => by simp only [impl_allOrders.l0, c, e.out, ↓reduceIte]) (Ev.bind (ev_orderAt n j h1 h7 (by omega)) ?_)
      simp only [lim, ↓reduceIte]
      exact nx
  unfold impl_allOrders.f
  exact Ev.bind (ev_factorial n h7) (go (fct n) 0 (by omega))
theorem ords_mem {n : Nat} {o : List Int} (h : o ∈ ords n) : o.Perm (iota 1 n) ∧ o.length = n := by
  obtain ⟨k, hk, rfl⟩ := List.mem_map.1 h
  exact ⟨unr_perm n (iota 1 n) k (iota_length _ _) (List.mem_range.1 hk), unr_len _ _ _⟩
theorem ev_l2Ways (m : Nat) (h : m ≤ 7) : Ev (fun k => spec_l2Ways.f k (m : Int)) (fct m : Int) := by
  have hm : m = 0 ∨ m = 1 ∨ m = 2 ∨ m = 3 ∨ m = 4 ∨ m = 5 ∨ m = 6 ∨ m = 7 := by omega
  rcases hm with rfl | rfl | rfl | rfl | rfl | rfl | rfl | rfl <;> exact Ev.of (fun k => spec_l2Ways.mono _ k) (k := 20) (by decide +kernel)
theorem ev_l2At0 : ∀ (m : Nat) (left out : List Int) (k : Nat), left.length = m → m ≤ 7 → k < fct m → out.length + m ≤ 100 → Ev (fun K => spec_l2At.l0 K (k : Int) out left) (out ++ unr m left k)
  | 0, left, out, k, hl, _, _, _ => by
    have c : ¬ (left.length : Int) > 0 := by omega
    rw [unr, List.append_nil]
    exact Ev.step (f := fun _ => some out) (fun K => by simp only [spec_l2At.l0, c, ↓reduceIte]) (Ev.now _)
  | m + 1, left, out, k, hl, hm, hk, ho => by
    have c : (left.length : Int) > 0 := by omega
    have hq : k / fct m < left.length := by
      rw [hl]
      exact Nat.div_lt_of_lt_mul (by rw [Nat.mul_comm]; exact hk)
    have hkb := fct_le (m + 1) hm
    have hp := fct_pos m
    have hdk : k / fct m ≤ k := Nat.div_le_self _ _
    obtain ⟨q, hqe⟩ : ∃ q : Nat, q = k / fct m := ⟨_, rfl⟩
    rw [← hqe] at hq hdk
    have HQE := Aside0.mk hqe
    clear hqe
    have e1 := Aside0.mk (show wrap64 ((left.length : Int) - 1) = (m : Int) from by rw [wr (by omega) (by omega)]; omega)
    have e2 := Aside0.mk (show wrap64 (Int.tdiv (k : Int) (fct m : Int)) = (q : Int) from by rw [← Int.ofNat_tdiv, ← HQE.out, wr (by omega) (by omega)])
    have e3 := Aside0.mk (show Int.tmod (k : Int) (fct m : Int) = ((k % fct m : Nat) : Int) from (Int.ofNat_tmod _ _).symm)
    have e4 := Aside0.mk (show wrap64 ((q : Int) + 1) = ((q + 1 : Nat) : Int) from wj (by omega))
    have n0 : ¬ (fct m : Int) = 0 := by omega
    have c1 : 0 ≤ (q : Int) := by omega
    have c2 : (q : Int) < (left.length : Int) := by omega
    have c3 : (q : Int) ≤ (left.length : Int) := by omega
    have c4 : 0 ≤ ((q + 1 : Nat) : Int) := by omega
    have c5 : ((q + 1 : Nat) : Int) ≤ (left.length : Int) := by omega
    have c6 : out.length < 17592186044416 := by omega
    have own : spec_l1Own.f (left.take q) = some (left.take q) := by
      unfold spec_l1Own.f
      have lim : ([] : List Int).length + (left.take q).length < 17592186044416 := by simp; omega
      simp only [Option.bind_some, lim, ↓reduceIte, List.nil_append]
    have c7 : (left.take q).length + (left.drop (q + 1)).length < 17592186044416 := by rw [List.length_take, List.length_drop]; omega
    have ih := ev_l2At0 m (left.eraseIdx q) (out ++ [rd left (q : Int)]) (k % fct m) (by rw [List.length_eraseIdx_of_lt hq]; omega) (by omega) (Nat.mod_lt _ hp) (by rw [List.length_append, List.length_singleton]; omega)
    rw [unr, ← HQE.out, List.append_cons]
    refine Ev.step (f := fun K => (spec_l2Ways.f K (m : Int)).bind fun t802 => (if t802 = 0 then (none) else (if 0 ≤ (wrap64 (Int.tdiv (k : Int) t802)) then (if (wrap64 (Int.tdiv (k : Int) t802)) < (left.length : Int) then (if out.length < 17592186044416 then (if (wrap64 (Int.tdiv (k : Int) t802)) ≤ (left.length : Int) then ((spec_l1Own.f (left.take ((wrap64 (Int.tdiv (k : Int) t802)) : Int).toNat)).bind fun t811 => (if 0 ≤ (wrap64 ((wrap64 (Int.tdiv (k : Int) t802)) + 1)) then (if (wrap64 ((wrap64 (Int.tdiv (k : Int) t802)) + 1)) ≤ (left.length : Int) then ((some (left.drop ((wrap64 ((wrap64 (Int.tdiv (k : Int) t802)) + 1)) : Int).toNat : List Int)).bind fun y814 => (if t811.length + y814.length < 17592186044416 then (spec_l2At.l0 K (Int.tmod (k : Int) t802) (out ++ [rd left (wrap64 (Int.tdiv (k : Int) t802))]) (t811 ++ y814)) else (none))) else (none)) else (none))) else (none)) else (none)) else (none)) else (none))))
      (fun K => by simp only [spec_l2At.l0, c, e1.out, ↓reduceIte]) (Ev.bind (ev_l2Ways m (by omega)) ?_)
    simp only [if_neg n0, e2.out, e3.out, e4.out, c1, c2, c3, c4, c5, c6, own, c7, Int.toNat_natCast, Option.bind_some, ↓reduceIte]
    rw [← List.eraseIdx_eq_take_drop_succ]
    exact ih
theorem ev_l2At (n k : Nat) (h7 : n ≤ 7) (hk : k < fct n) : Ev (fun K => spec_l2At.f K (n : Int) (k : Int)) (unr n (iota 1 n) k) := by
  unfold spec_l2At.f
  refine Ev.bind (ev_l2Sorted n (by omega)) ?_
  have := ev_l2At0 n (iota 1 n) [] k (iota_length _ _) h7 hk (by simp; omega)
  rw [List.nil_append] at this
  exact this
theorem ev_l2Orders (n : Nat) (h7 : n ≤ 7) : Ev (fun k => spec_l2Orders.f k (n : Int)) (ords n) := by
  have hb := fct_le n h7
  have go : ∀ (m j : Nat), j + m = fct n → Ev (fun k => spec_l2Orders.l0 k (n : Int) ((List.range j).map (unr n (iota 1 n))) (j : Int)) (ords n) := by
    intro m
    induction m with
    | zero =>
      intro j hj
      have c : ¬ (j : Int) < (fct n : Int) := by omega
      obtain rfl : j = fct n := by omega
      refine Ev.step (f := fun k => (spec_l2Ways.f k (n : Int)).bind fun t824 => (if (fct n : Int) < t824 then ((spec_l2At.f k (n : Int) (fct n : Int)).bind fun t825 => (if ((List.range (fct n)).map (unr n (iota 1 n))).length < 5864062014805 then (spec_l2Orders.l0 k (n : Int) ((List.range (fct n)).map (unr n (iota 1 n)) ++ [t825]) (wrap64 ((fct n : Int) + 1))) else (none))) else (some ((List.range (fct n)).map (unr n (iota 1 n)))))) (fun k => by simp only [spec_l2Orders.l0]) (Ev.bind (ev_l2Ways n h7) ?_)
      simp only [c, ↓reduceIte]
      exact Ev.now _
    | succ m ih =>
      intro j hj
      have c : (j : Int) < (fct n : Int) := by omega
      have lim : ((List.range j).map (unr n (iota 1 n))).length < 5864062014805 := by rw [List.length_map, List.length_range]; omega
      have e := Aside0.mk (show wrap64 ((j : Int) + 1) = ((j + 1 : Nat) : Int) from wj (by omega))
      have nx := ih (j + 1) (by omega)
      rw [ords_take n j (by omega)] at nx
      refine Ev.step (f := fun k => (spec_l2Ways.f k (n : Int)).bind fun t824 => (if (j : Int) < t824 then ((spec_l2At.f k (n : Int) (j : Int)).bind fun t825 => (if ((List.range j).map (unr n (iota 1 n))).length < 5864062014805 then (spec_l2Orders.l0 k (n : Int) ((List.range j).map (unr n (iota 1 n)) ++ [t825]) ((j + 1 : Nat) : Int)) else (none))) else (some ((List.range j).map (unr n (iota 1 n)))))) (fun k => by simp only [spec_l2Orders.l0, e.out]) (Ev.bind (ev_l2Ways n h7) ?_)
      simp only [c, ↓reduceIte]
      refine Ev.bind (ev_l2At n j h7 (by omega)) ?_
      simp only [lim, ↓reduceIte]
      exact nx
  exact go (fct n) 0 (by omega)
theorem chk_of (n : Int) : ∀ (l pre : List Int), (∀ x ∈ l, 1 ≤ x ∧ x ≤ n) → (pre ++ l).Nodup → chk n pre l = true
  | [], _, _, _ => rfl
  | x :: t, pre, h, hn => by
    have hx := h x (by simp)
    have hnx : x ∉ pre := fun hp => by
      have := List.nodup_append.1 hn
      exact this.2.2 x hp x (by simp) rfl
    simp only [chk, Bool.and_eq_true, decide_eq_true_eq, Bool.not_eq_true', List.contains_eq_mem, decide_eq_false_iff_not]
    exact ⟨⟨⟨hx.1, hx.2⟩, hnx⟩, chk_of n t (pre ++ [x]) (fun y hy => h y (by simp [hy])) (by rw [List.append_assoc]; exact hn)⟩
theorem iota_nodup (n : Nat) : (iota 1 n).Nodup := by
  unfold iota
  rw [List.nodup_iff_pairwise_ne, List.pairwise_map]
  refine List.Pairwise.imp ?_ List.nodup_range
  intro a b hab h
  exact hab (by omega)
theorem iota_range (n : Nat) : ∀ x ∈ iota 1 n, 1 ≤ x ∧ x ≤ (n : Int) := by
  intro x hx
  obtain ⟨i, hi, rfl⟩ := List.mem_map.1 hx
  have := List.mem_range.1 hi
  omega
theorem ordB_of_perm {o : List Int} {n : Nat} (h1 : 1 ≤ n) (h7 : n ≤ 7) (p : o.Perm (iota 1 n)) : ordB o = true := by
  have hl : o.length = n := by rw [p.length_eq, iota_length]
  unfold ordB
  rw [hl, decide_eq_true h1, decide_eq_true h7]
  refine chk_of n o [] (fun x hx => iota_range n x (p.mem_iff.1 hx)) ?_
  rw [List.nil_append]
  exact p.symm.nodup (iota_nodup n)
/-! ### the best value over all orders -/
def Vn (o : List Int) : Int := vl o 14 ⟨#[]⟩
def pl (s : Int) : List (List Int) → Int → List Int → Int × List Int
  | [], best, out => (best, out)
  | o :: t, best, out => if s * Vn o > s * best then pl s t (Vn o) o else pl s t best out
def goodO (o : List Int) : Prop := duelB o ⟨#[]⟩ = true ∧ 0 < o.length
theorem Vn_bound {o : List Int} (h : goodO o) : -98 ≤ Vn o ∧ Vn o ≤ 98 := by
  have := vl_bound (duelB_facts h.1).1 14 (by decide) ⟨#[]⟩
  unfold Vn
  omega
theorem pl_bound (s : Int) : ∀ (L : List (List Int)) (best : Int) (out : List Int), (∀ o ∈ L, goodO o) → -98 ≤ best ∧ best ≤ 98 → -98 ≤ (pl s L best out).1 ∧ (pl s L best out).1 ≤ 98
  | [], best, out, _, h => h
  | o :: t, best, out, hg, h => by
    simp only [pl]
    split
    · exact pl_bound s t _ _ (fun x hx => hg x (List.mem_cons_of_mem _ hx)) (Vn_bound (hg o List.mem_cons_self))
    · exact pl_bound s t _ _ (fun x hx => hg x (List.mem_cons_of_mem _ hx)) h
theorem pl_mem (s : Int) : ∀ (L : List (List Int)) (best : Int) (out : List Int), (pl s L best out).2 = out ∨ (pl s L best out).2 ∈ L
  | [], best, out => .inl rfl
  | o :: t, best, out => by
    simp only [pl]
    split
    · rcases pl_mem s t (Vn o) o with h | h
      · exact .inr (by rw [h]; exact List.mem_cons_self)
      · exact .inr (List.mem_cons_of_mem _ h)
    · rcases pl_mem s t best out with h | h
      · exact .inl h
      · exact .inr (List.mem_cons_of_mem _ h)
theorem ords_good {n : Nat} (h1 : 1 ≤ n) (h5 : n ≤ 5) {o : List Int} (h : o ∈ ords n) : goodO o := by
  obtain ⟨p, hl⟩ := ords_mem h
  have ho := ordB_of_perm h1 (by omega) p
  refine ⟨?_, by omega⟩
  unfold duelB isBeg
  rw [ho, hl]
  have e : bs (⟨#[]⟩ : ByteArray) = [] := rfl
  have e2 : (⟨#[]⟩ : ByteArray).size = 0 := rfl
  simp only [e, e2, beg, Bool.true_and, Bool.and_eq_true, decide_eq_true_eq, Option.isSome_some, and_true]
  omega
theorem ev_farL (s : Int) (hs : s = 1 ∨ s = -1) : ∀ (L : List (List Int)) (best : List Int) (m : Int), (∀ o ∈ L, goodO o) → -98 ≤ m ∧ m ≤ 98 → Ev (fun k => farL (fun o => spec_l11Value.f k o (⟨#[]⟩ : ByteArray)) s L best (s * m)) ((pl s L m best).2, s * (pl s L m best).1)
  | [], best, m, _, _ => Ev.now _
  | o :: t, best, m, hg, hm => by
    have hgo := hg o List.mem_cons_self
    have hv := Vn_bound hgo
    have e : wrap64 (s * Vn o) = s * Vn o := by rcases hs with rfl | rfl <;> exact wr (by omega) (by omega)
    have hr : ∀ x ∈ t, goodO x := fun x hx => hg x (List.mem_cons_of_mem _ hx)
    simp only [farL, pl]
    refine Ev.bind (ev_l11Value o ⟨#[]⟩ hgo.1) ?_
    rw [show vl o 14 ⟨#[]⟩ = Vn o from rfl, e]
    by_cases hgt : s * Vn o > s * m
    · simp only [hgt, ↓reduceIte]
      exact ev_farL s hs t _ _ hr hv
    · simp only [hgt, ↓reduceIte]
      exact ev_farL s hs t _ _ hr hm
theorem ev_bdL (s : Int) (lt : Int → Int → Bool) (hlt : ∀ a b, lt a b = decide (s * a > s * b)) : ∀ (L : List (List Int)) (m : Int) (best : List Int), (∀ o ∈ L, goodO o) → Ev (fun k => bdL lt (fun o => impl_DuelValue.f k o (⟨#[]⟩ : ByteArray)) L false m best) (pl s L m best)
  | [], m, best, _ => Ev.now _
  | o :: t, m, best, hg => by
    have hgo := hg o List.mem_cons_self
    have hr : ∀ x ∈ t, goodO x := fun x hx => hg x (List.mem_cons_of_mem _ hx)
    have hv := ev_DuelValue o ⟨#[]⟩ (by decide)
    rw [if_pos hgo.1] at hv
    simp only [bdL, pl, show (0 < o.length) = True from eq_true hgo.2, ↓reduceIte]
    refine Ev.bind hv ?_
    rw [show vl o 14 ⟨#[]⟩ = Vn o from rfl]
    simp only [hlt, Bool.false_eq_true, false_or, decide_eq_true_eq]
    by_cases hgt : s * Vn o > s * m
    · simp only [hgt, ↓reduceIte]
      exact ev_bdL s lt hlt t _ _ hr
    · simp only [hgt, ↓reduceIte]
      exact ev_bdL s lt hlt t _ _ hr
theorem pl_max (s : Int) : ∀ (L : List (List Int)) (best : Int) (out : List Int), s * best ≤ s * (pl s L best out).1 ∧ (∀ o ∈ L, s * Vn o ≤ s * (pl s L best out).1) ∧ ((pl s L best out).1 = best ∨ ∃ o ∈ L, (pl s L best out).1 = Vn o)
  | [], best, out => ⟨Int.le_refl _, (fun o h => by cases h), .inl rfl⟩
  | o :: t, best, out => by
    simp only [pl]
    split
    · rename_i hgt
      obtain ⟨a, b, c⟩ := pl_max s t (Vn o) o
      refine ⟨Int.le_trans (Int.le_of_lt hgt) a, fun x hx => ?_, .inr ?_⟩
      · rcases List.mem_cons.1 hx with rfl | hx
        · exact a
        · exact b x hx
      · rcases c with c | ⟨x, hx, c⟩
        · exact ⟨o, List.mem_cons_self, c⟩
        · exact ⟨x, List.mem_cons_of_mem _ hx, c⟩
    · rename_i hgt
      obtain ⟨a, b, c⟩ := pl_max s t best out
      refine ⟨a, fun x hx => ?_, ?_⟩
      · rcases List.mem_cons.1 hx with rfl | hx
        · exact Int.le_trans (Int.not_lt.1 hgt) a
        · exact b x hx
      · rcases c with c | ⟨x, hx, c⟩
        · exact .inl c
        · exact .inr ⟨x, List.mem_cons_of_mem _ hx, c⟩
theorem both_far (s : Int) (hs : s = 1 ∨ s = -1) (lt : Int → Int → Bool) (hlt : ∀ a b, lt a b = decide (s * a > s * b)) (n : Int) : ∃ r : Int × List Int × Bool, r.2.1.length ≤ 5 ∧ Ev (fun k => spec_l11Far.f k n s) r ∧ Ev (fun k => bduelF k lt n) r ∧ r.2.2 = (decide (1 ≤ n) && decide (n ≤ 5)) ∧ (r.2.2 = true → (∃ o ∈ ords n.toNat, r.1 = Vn o) ∧ ∀ o ∈ ords n.toNat, s * Vn o ≤ s * r.1) := by
  by_cases hn : 1 ≤ n ∧ n ≤ 5
  · obtain ⟨m, rfl⟩ : ∃ m : Nat, n = (m : Int) := ⟨n.toNat, by omega⟩
    have h1 : 1 ≤ m := by omega
    have h5 : m ≤ 5 := by omega
    have hlen := ords_len m
    have hfp := fct_pos m
    have hfl := fct_le m (by omega)
    have hall : ∀ o ∈ ords m, goodO o := fun o ho => ords_good h1 h5 ho
    have hl5 : ∀ o ∈ ords m, o.length ≤ 5 := fun o ho => by rw [(ords_mem ho).2]; exact h5
    have hO := ev_l2Orders m (by omega)
    have hA := ev_allOrders m h1 (by omega)
    simp only [Int.toNat_natCast]
    generalize ords m = L at hlen hall hl5 hO hA ⊢
    cases L with
    | nil => simp at hlen; omega
    | cons o t =>
      have hgo := hall o List.mem_cons_self
      have hr : ∀ x ∈ t, goodO x := fun x hx => hall x (List.mem_cons_of_mem _ hx)
      have hv := Vn_bound hgo
      have e : wrap64 (s * Vn o) = s * Vn o := by rcases hs with rfl | rfl <;> exact wr (by omega) (by omega)
      have hb := pl_bound s t (Vn o) o hr hv
      have hcond : (0 < (o :: t).length ∧ (o :: t).length < 1000000) = True := eq_true ⟨by simp, by omega⟩
      refine ⟨((pl s t (Vn o) o).1, (pl s t (Vn o) o).2, true), ?_, ?_, ?_, ?_, fun _ => ?_⟩
      · rcases pl_mem s t (Vn o) o with h | h
        · show (pl s t (Vn o) o).2.length ≤ 5
          rw [h]
          exact hl5 o List.mem_cons_self
        · exact hl5 _ (List.mem_cons_of_mem _ h)
      · unfold spec_l11Far.f
        have c1 : decide ((1 : Int) ≤ (m : Int)) = true := decide_eq_true hn.1
        have c2 : decide ((m : Int) ≤ 5) = true := decide_eq_true hn.2
        simp only [ev_l1In, c1, c2, Bool.and_true, Option.bind_some, ↓reduceIte]
        refine Ev.bind hO ?_
        simp only [hcond, ↓reduceIte]
        have e0 : rdL (o :: t) 0 = o := rfl
        simp only [e0, List.drop_succ_cons, List.drop_zero]
        refine Ev.bind (ev_l11Value o ⟨#[]⟩ hgo.1) ?_
        rw [show vl o 14 ⟨#[]⟩ = Vn o from rfl, e]
        refine Ev.bind (ev_farL s hs t o (Vn o) hr hv) ?_
        have e2 : wrap64 (s * (s * (pl s t (Vn o) o).1)) = (pl s t (Vn o) o).1 := by
          rcases hs with rfl | rfl
          · rw [Int.one_mul, Int.one_mul]; exact wr (by omega) (by omega)
          · rw [show (-1 : Int) * (-1 * (pl (-1) t (Vn o) o).1) = (pl (-1) t (Vn o) o).1 by omega]; exact wr (by omega) (by omega)
        simp only [e2]
        exact Ev.now _
      · unfold bduelF
        have c0 : ¬ ((m : Int) < 1 ∨ 5 < (m : Int)) := by omega
        simp only [c0, ↓reduceIte]
        refine Ev.bind hA ?_
        simp only [hcond, ↓reduceIte]
        have hvD := ev_DuelValue o ⟨#[]⟩ (by decide)
        rw [if_pos hgo.1] at hvD
        have hbd : Ev (fun k => bdL lt (fun o => impl_DuelValue.f k o (⟨#[]⟩ : ByteArray)) (o :: t) true 0 []) (pl s t (Vn o) o) := by
          simp only [bdL, show (0 < o.length) = True from eq_true hgo.2, ↓reduceIte, true_or]
          refine Ev.bind hvD ?_
          exact ev_bdL s lt hlt t _ _ hr
        exact Ev.bind hbd (Ev.now _)
      · rw [decide_eq_true hn.1, decide_eq_true hn.2]
        rfl
      · obtain ⟨a, b, c⟩ := pl_max s t (Vn o) o
        refine ⟨?_, fun x hx => ?_⟩
        · rcases c with c | ⟨x, hx, c⟩
          · exact ⟨o, List.mem_cons_self, c⟩
          · exact ⟨x, List.mem_cons_of_mem _ hx, c⟩
        · rcases List.mem_cons.1 hx with rfl | hx
          · exact a
          · exact b x hx
  · refine ⟨(0, [], false), by simp, ?_, ?_, ?_, fun h => by cases h⟩
    · unfold spec_l11Far.f
      have c : (decide ((1 : Int) ≤ n) && decide (n ≤ 5)) = false := by
        by_cases h1 : 1 ≤ n
        · rw [decide_eq_false (show ¬ n ≤ 5 by omega), Bool.and_false]
        · rw [decide_eq_false h1, Bool.false_and]
      simp only [ev_l1In, c, Option.bind_some, Bool.false_eq_true, ↓reduceIte]
      exact Ev.now _
    · unfold bduelF
      have c0 : n < 1 ∨ 5 < n := by omega
      simp only [c0, ↓reduceIte]
      exact Ev.now _
    · by_cases h1 : 1 ≤ n
      · rw [decide_eq_false (show ¬ n ≤ 5 by omega), Bool.and_false]
      · rw [decide_eq_false h1, Bool.false_and]
/-! ### all orders are among the orders -/
theorem unr_surj : ∀ (m : Nat) (left o : List Int), left.length = m → o.length = m → o.Nodup → (∀ x ∈ o, x ∈ left) → ∃ k, k < fct m ∧ unr m left k = o
  | 0, left, o, _, ho, _, _ => by
    obtain rfl := List.eq_nil_of_length_eq_zero ho
    exact ⟨0, by decide, rfl⟩
  | m + 1, left, o, hl, ho, hnd, hs => by
    cases o with
    | nil => cases ho
    | cons x t =>
      obtain ⟨i, hi, hx⟩ := List.getElem_of_mem (hs x List.mem_cons_self)
      have hx' := List.nodup_cons.1 hnd
      have hsub : ∀ y ∈ t, y ∈ left.eraseIdx i := by
        intro y hy
        have hm := hs y (List.mem_cons_of_mem _ hy)
        have h1 : left = left.take i ++ left[i] :: left.drop (i + 1) := by
          rw [← List.drop_eq_getElem_cons hi, List.take_append_drop]
        rw [h1, List.mem_append, List.mem_cons] at hm
        rw [List.eraseIdx_eq_take_drop_succ, List.mem_append]
        rcases hm with hm | hm | hm
        · exact .inl hm
        · rw [hx] at hm
          rw [hm] at hy
          exact absurd hy hx'.1
        · exact .inr hm
      rw [List.length_cons] at ho
      obtain ⟨k, hk, hu⟩ := unr_surj m (left.eraseIdx i) t (by rw [List.length_eraseIdx_of_lt hi]; omega) (by omega) hx'.2 hsub
      have hp := fct_pos m
      have q1 : (fct m * i + k) / fct m = i := by rw [Nat.mul_add_div hp, Nat.div_eq_of_lt hk, Nat.add_zero]
      have q2 : (fct m * i + k) % fct m = k := by rw [Nat.mul_add_mod, Nat.mod_eq_of_lt hk]
      refine ⟨fct m * i + k, ?_, ?_⟩
      · have a1 : fct m * i + k < fct m * (i + 1) := by rw [Nat.mul_add]; omega
        have a2 : fct m * (i + 1) ≤ fct m * (m + 1) := Nat.mul_le_mul_left _ (by omega)
        rw [fct, Nat.mul_comm (m + 1)]
        omega
      · rw [unr, q1, q2, hu, rd_get left i hi, hx]
theorem ordB_ords {o : List Int} (h : ordB o = true) : o ∈ ords o.length := by
  obtain ⟨k, hk, hu⟩ := unr_surj o.length (iota 1 o.length) o (iota_length _ _) rfl (ordB_nodup h) (fun x hx => by
    have hr := ordB_range h x hx
    unfold iota
    exact List.mem_map.2 ⟨(x - 1).toNat, List.mem_range.2 (by omega), by omega⟩)
  unfold ords
  exact List.mem_map.2 ⟨k, List.mem_range.2 hk, hu⟩
/-- How high the stack stands behind signs. -/
def hgt : List Int → Int → Option Int
  | [], h => some h
  | c :: t, h => if c = 73 then hgt t (h + 1) else if c = 79 then (if h - 1 < 0 then none else hgt t (h - 1)) else none
theorem hgt_append : ∀ (a b : List Int) (h : Int), hgt (a ++ b) h = (hgt a h).bind (hgt b)
  | [], b, h => rfl
  | c :: t, b, h => by
    simp only [List.cons_append, hgt]
    split
    · exact hgt_append t b _
    · split
      · split
        · rfl
        · exact hgt_append t b _
      · rfl
theorem hgt_byte : ∀ (l : List Int) (h r : Int), hgt l h = some r → ∀ c ∈ l, c = 73 ∨ c = 79
  | [], _, _, _ => by intro c hc; cases hc
  | x :: t, h, r, e => by
    intro c hc
    simp only [hgt] at e
    split at e
    · rcases List.mem_cons.1 hc with rfl | hc
      · exact .inl (by assumption)
      · exact hgt_byte t _ _ e c hc
    · split at e
      · split at e
        · cases e
        · rcases List.mem_cons.1 hc with rfl | hc
          · exact .inr (by assumption)
          · exact hgt_byte t _ _ e c hc
      · cases e
theorem ev_isSize (a : Int) : impl_isSize.f a = some (decide (1 ≤ a) && decide (a ≤ 7)) := by
  unfold impl_isSize.f
  by_cases h : 1 ≤ a
  · rw [if_pos h, decide_eq_true h, Bool.true_and]
  · rw [if_neg h, decide_eq_false h, Bool.false_and]
/-! ### any text: is it a word, and how deep -/
theorem hgt_par : ∀ (l : List Int) (h r : Int), hgt l h = some r → (l.length : Int) + h - r = 2 * (((l.length : Int) + h - r) / 2)
  | [], h, r, e => by
    obtain rfl := Option.some.inj e
    simp
  | c :: t, h, r, e => by
    rw [hgt] at e
    rw [List.length_cons]
    split at e
    · have := hgt_par t _ _ e
      omega
    · split at e
      · split at e
        · cases e
        · have := hgt_par t _ _ e
          omega
      · cases e
def depW : List Int → Int → Int → Int
  | [], _, M => M
  | c :: t, h, M => if c = 73 then depW t (h + 1) (mx M (h + 1)) else depW t (h - 1) (mx M (h - 1))
/-- Is a text a word? -/
def wordB (s : ByteArray) : Bool := decide (hgt (bs s) 0 = some 0) && (decide (2 ≤ s.size) && decide (s.size ≤ 14))
theorem ev_depthAny (s : ByteArray) (hs : s.size ≤ 1048576) : Ev (fun k => impl_depthOf.f k s) (if wordB s = true then (depW (bs s) 0 0, true) else (0, false)) := by
  have go : ∀ (m j : Nat) (h M : Int), j + m = s.size → 0 ≤ h → h ≤ j → Ev (fun k => impl_depthOf.l0 k s h M (s.size : Int) (j : Int)) (if hgt ((bs s).drop j) h = some 0 ∧ 2 ≤ s.size ∧ s.size ≤ 15 then (depW ((bs s).drop j) h M, true) else (0, false)) := by
    intro m
    induction m with
    | zero =>
      intro j h M hj h0 hhj
      rw [bs_end s j (by omega)]
      have c : ¬ (j : Int) < (s.size : Int) := by omega
      by_cases hh : h = 0
      · subst hh
        have e1 := Aside0.mk (show wrap64 ((s.size : Int) / 2) = ((s.size / 2 : Nat) : Int) from by rw [wr (by omega) (by omega)]; omega)
        by_cases hz : 2 ≤ s.size ∧ s.size ≤ 15
        · rw [if_pos ⟨rfl, hz⟩]
          have e2 : impl_isSize.f ((s.size / 2 : Nat) : Int) = some true := by
            rw [ev_isSize, decide_eq_true (by omega), decide_eq_true (by omega)]
            rfl
          exact Ev.step (f := fun _ => some (M, true)) (fun k => by simp only [impl_depthOf.l0, c, e1.out, e2, Option.bind_some, ↓reduceIte]) (Ev.now _)
        · rw [if_neg (fun k => hz k.2)]
          have e2 : impl_isSize.f ((s.size / 2 : Nat) : Int) = some false := by
            rw [ev_isSize]
            congr 1
            rw [Bool.and_eq_false_iff, decide_eq_false_iff_not, decide_eq_false_iff_not]
            omega
          exact Ev.step (f := fun _ => some (0, false)) (fun k => by simp only [impl_depthOf.l0, c, e1.out, e2, Option.bind_some, Bool.false_eq_true, ↓reduceIte]) (Ev.now _)
      · rw [if_neg (fun k => hh (Option.some.inj k.1))]
        exact Ev.step (f := fun _ => some (0, false)) (fun k => by simp only [impl_depthOf.l0, c, hh, ↓reduceIte]) (Ev.now _)
    | succ m ih =>
      intro j h M hj h0 hhj
      have c : (j : Int) < (s.size : Int) := by omega
      have c0 : 0 ≤ (j : Int) := by omega
      have e1 := Aside0.mk (show wrap64 ((j : Int) + 1) = ((j + 1 : Nat) : Int) from wj (by omega))
      have e2 := Aside0.mk (show wrap64 (h + 1) = h + 1 from wr (by omega) (by omega))
      have e3 := Aside0.mk (show wrap64 (h - 1) = h - 1 from wr (by omega) (by omega))
      rw [bs_drop s j (by omega), hgt, depW]
      by_cases h73 : bt s (j : Int) = 73
      · rw [if_pos h73, if_pos h73]
        have b := ih (j + 1) (h + 1) (mx M (h + 1)) (by omega) (by omega) (by omega)
        have n1 : ¬ h + 1 < 0 := by omega
        exact Ev.step (fun k => by simp only [impl_depthOf.l0, c, c0, h73, e2.out, n1, e1.out, ↓reduceIte]) b
      · rw [if_neg h73, if_neg h73]
        by_cases h79 : bt s (j : Int) = 79
        · rw [if_pos h79]
          by_cases n1 : h - 1 < 0
          · rw [if_pos n1, if_neg (fun k => by cases k.1)]
            refine Ev.step (f := fun _ => some (0, false)) (fun k => ?_) (Ev.now _)
            simp only [impl_depthOf.l0, c, c0, e3.out, n1, ↓reduceIte]
            rw [if_neg h73, if_pos h79]
          · rw [if_neg n1]
            have b := ih (j + 1) (h - 1) (mx M (h - 1)) (by omega) (by omega) (by omega)
            refine Ev.step (fun k => ?_) b
            simp only [impl_depthOf.l0, c, c0, e3.out, n1, e1.out, ↓reduceIte]
            rw [if_neg h73, if_pos h79]
        · rw [if_neg h79, if_neg (fun k => by cases k.1)]
          refine Ev.step (f := fun _ => some (0, false)) (fun k => ?_) (Ev.now _)
          simp only [impl_depthOf.l0, c, c0, ↓reduceIte]
          rw [if_neg h73, if_neg h79]
  have := go s.size 0 0 0 (by omega) (by omega) (by omega)
  rw [List.drop_zero] at this
  have e : (hgt (bs s) 0 = some 0 ∧ 2 ≤ s.size ∧ s.size ≤ 15) ↔ wordB s = true := by
    unfold wordB
    simp only [Bool.and_eq_true, decide_eq_true_eq]
    constructor
    · rintro ⟨h1, h2, h3⟩
      have := hgt_par _ _ _ h1
      rw [bs_length] at this
      exact ⟨h1, h2, by omega⟩
    · rintro ⟨h1, h2, h3⟩
      exact ⟨h1, h2, by omega⟩
  by_cases hw : wordB s = true
  · rw [if_pos hw]
    rw [if_pos (e.2 hw)] at this
    exact this
  · rw [if_neg hw]
    rw [if_neg (fun k => hw (e.1 k))] at this
    exact this
theorem ev_isWordAny (s : ByteArray) (hs : s.size ≤ 1048576) : Ev (fun k => impl_isWord.f k s) (wordB s) := by
  unfold impl_isWord.f
  refine Ev.bind (ev_depthAny s hs) ?_
  cases wordB s <;> exact Ev.now _
/-! ### draws: each tells something, and reads a bounded number of choices -/
def Bytes (s : List Int) : Prop := ∀ x ∈ s, 0 ≤ x ∧ x ≤ 255
theorem bytes_of {l : List Int} (h : ∀ x ∈ l, (Lit.int .u8 x).wf = true) : Bytes l := by
  intro x hx
  exact bounds_u8 (h x hx)
theorem u64r (x : Int) : 0 ≤ IntKind.u64.wrap x ∧ IntKind.u64.wrap x < 18446744073709551616 := by
  simp [IntKind.wrap, IntKind.bits, IntKind.signed]
  omega
theorem and255 (y : Int) (h0 : 0 ≤ y) (h1 : y < 18446744073709551616) : 0 ≤ Go.bits .and .u64 (y / 1099511627776) 255 ∧ Go.bits .and .u64 (y / 1099511627776) 255 ≤ 255 := by
  have h := bits_mask .u64 63 (by decide) (fun n a b => by simp [IntKind.wrap, IntKind.bits, IntKind.signed]; omega) 8 (by decide) (y / 1099511627776) (by omega) (by omega)
  have e : ((2 : Int) ^ 8 - 1) = 255 := by decide
  have e2 : ((2 : Int) ^ 8) = 256 := by decide
  rw [e, e2] at h
  rw [h]
  omega
theorem rd_byte {s : List Int} (hs : Bytes s) (i : Int) (h0 : 0 ≤ i) (h1 : i < (s.length : Int)) : 0 ≤ rd s i ∧ rd s i ≤ 255 := by
  have e := rd_get s i.toNat (by omega)
  rw [Int.toNat_of_nonneg h0] at e
  rw [e]
  exact hs _ (List.getElem_mem _)
theorem next_ok {s : List Int} (hs : Bytes s) (a sd : Int) (h0 : 0 ≤ a) (h1 : a ≤ 4611686018427387904) : ∃ b sd', spec_l1Cur_next.f s a sd = some (b, a + 1, sd') ∧ 0 ≤ b ∧ b ≤ 255 := by
  unfold spec_l1Cur_next.f
  have e : Aside0 (wrap64 (a + 1) = a + 1) := ⟨wr (by omega) (by omega)⟩
  rw [e.out]
  by_cases c : a < (s.length : Int)
  · have c2 : a + 1 ≤ (s.length : Int) := by omega
    have hb := rd_byte hs a h0 c
    rw [if_pos c, if_pos h0, if_pos c2]
    refine ⟨_, _, rfl, ?_, ?_⟩ <;> rw [wr (by omega) (by omega)] <;> omega
  · have c2 : ¬ a + 1 ≤ (s.length : Int) := by omega
    rw [if_neg c, if_neg c2]
    have hr := u64r (IntKind.u64.wrap (IntKind.u64.wrap (sd * 6364136223846793005)) + 462197)
    have ha := and255 _ hr.1 hr.2
    refine ⟨_, _, rfl, ?_, ?_⟩ <;> rw [wr (by omega) (by omega)] <;> omega
theorem pick_ok {s : List Int} (hs : Bytes s) (a sd n : Int) (h0 : 0 ≤ a) (h1 : a ≤ 1000000000) : ∃ r a' sd', spec_l1Cur_pick.f s a sd n = some (r, a', sd') ∧ 0 ≤ r ∧ (r < n ∨ r = 0) ∧ a ≤ a' ∧ a' ≤ a + 2 := by
  unfold spec_l1Cur_pick.f
  by_cases c : n ≤ 1
  · rw [if_pos c]
    exact ⟨0, a, sd, rfl, by omega, .inr rfl, by omega, by omega⟩
  · rw [if_neg c]
    obtain ⟨b, s1, e1, hb0, hb1⟩ := next_ok hs a sd h0 (by omega)
    rw [e1, Option.bind_some]
    have c0 : ¬ n = 0 := by omega
    by_cases c2 : n > 200
    · obtain ⟨b2, s2, e2, hc0, hc1⟩ := next_ok hs (a + 1) s1 (by omega) (by omega)
      rw [if_pos c2, e2, Option.bind_some, if_neg c0]
      refine ⟨_, _, _, rfl, ?_, .inl ?_, by dsimp only; omega, by dsimp only; omega⟩
      · rw [wr (i := b * 256) (by omega) (by omega), wr (by omega) (by omega)]
        exact Int.tmod_nonneg _ (by omega)
      · rw [wr (i := b * 256) (by omega) (by omega), wr (by omega) (by omega)]
        exact Int.tmod_lt_of_pos _ (by omega)
    · rw [if_neg c2, if_neg c0]
      exact ⟨_, _, _, rfl, Int.tmod_nonneg _ (by omega), .inl (Int.tmod_lt_of_pos _ (by omega)), by dsimp only; omega, by dsimp only; omega⟩
theorem one_ok {s : List Int} (hs : Bytes s) (a sd n : Int) (h0 : 0 ≤ a) (h1 : a ≤ 1000000000) : ∃ r a' sd', spec_l1Cur_one.f s a sd n = some (r, a', sd') ∧ a ≤ a' ∧ a' ≤ a + 2 := by
  unfold spec_l1Cur_one.f
  obtain ⟨r, a', s', e, _, _, h2, h3⟩ := pick_ok hs a sd n h0 h1
  rw [e]
  exact ⟨_, _, _, rfl, h2, h3⟩
theorem rd_memI (l : List Int) (i : Int) (h0 : 0 ≤ i) (h1 : i < (l.length : Int)) : rd l i ∈ l := by
  have e := rd_get l i.toNat (by omega)
  rw [Int.toNat_of_nonneg h0] at e
  rw [e]
  exact List.getElem_mem _
theorem among_ok {s : List Int} (hs : Bytes s) (a sd : Int) (l : List Int) (h0 : 0 ≤ a) (h1 : a ≤ 1000000000) (hl : 0 < l.length) : ∃ r a' sd', spec_l1Cur_among.f s a sd l = some (r, a', sd') ∧ r ∈ l ∧ a ≤ a' ∧ a' ≤ a + 2 := by
  unfold spec_l1Cur_among.f
  obtain ⟨r, a', s', e, k0, k1, h2, h3⟩ := pick_ok hs a sd (l.length : Int) h0 h1
  have c : r < (l.length : Int) := by rcases k1 with k1 | k1 <;> omega
  rw [e, Option.bind_some, if_pos k0, if_pos c]
  exact ⟨_, _, _, rfl, rd_memI l r k0 c, h2, h3⟩
theorem size_to (t : ByteArray) (i : Nat) : (t.extract 0 i).size ≤ i ∧ (t.extract 0 i).size ≤ t.size := by
  rw [ByteArray.size_extract]
  omega
theorem size_from (t : ByteArray) (i : Nat) : (t.extract i t.size).size = t.size - i := by
  rw [ByteArray.size_extract]
  omega
theorem spoilt_ok {s : List Int} (hs : Bytes s) (a sd : Int) (t v : ByteArray) (h0 : 0 ≤ a) (h1 : a ≤ 1000000) (ht : t.size ≤ 1000000) (hv : 1 ≤ v.size ∧ v.size ≤ 1000) :
    ∃ r a' sd', spec_l1Cur_spoilt.f s a sd t v = some (r, a', sd') ∧ r.size ≤ t.size + 1 ∧ a ≤ a' ∧ a' ≤ a + 6 := by
  unfold spec_l1Cur_spoilt.f
  by_cases c : t.size = 0
  · have c2 : (1 : Int) ≤ (v.size : Int) := by omega
    rw [if_pos c, if_pos c2]
    have := size_to v 1
    exact ⟨_, _, _, rfl, by omega, by omega, by omega⟩
  · rw [if_neg c]
    obtain ⟨i, a1, s1, e1, i0, i1, p1, q1⟩ := pick_ok hs a sd (t.size : Int) h0 (by omega)
    have hi : i < (t.size : Int) := by rcases i1 with h | h <;> omega
    obtain ⟨j, a2, s2, e2, j0, j1, p2, q2⟩ := pick_ok hs a1 s1 (v.size : Int) (by omega) (by omega)
    have hj : j < (v.size : Int) := by rcases j1 with h | h <;> omega
    obtain ⟨m, a3, s3, e3, m0, m1, p3, q3⟩ := pick_ok hs a2 s2 3 (by omega) (by omega)
    rw [e1]
    simp only [Option.bind_some]
    rw [e2]
    simp only [Option.bind_some]
    rw [e3]
    simp only [Option.bind_some]
    rw [if_pos ⟨i0, by omega, j0, by omega, by omega, by omega⟩]
    refine ⟨_, _, _, rfl, ?_, by omega, by omega⟩
    have z1 := size_to t i.toNat
    have z2 := size_to (v.extract j.toNat v.size) 1
    have z3 := size_from t i.toNat
    have z4 := size_from t (i + 1).toNat
    by_cases m2 : m = 0
    · rw [if_pos m2]
      simp only [size_append]
      omega
    · rw [if_neg m2]
      by_cases m3 : m = 1
      · rw [if_pos m3]
        simp only [size_append]
        omega
      · rw [if_neg m3]
        simp only [size_append]
        omega
/-! ### draws of orders, words and beginnings -/
theorem own_eq (l : List Int) (hl : l.length ≤ 100000) : spec_l1Own.f l = some l := by
  unfold spec_l1Own.f
  have c : ([] : List Int).length + l.length < 17592186044416 := by rw [List.length_nil]; omega
  simp only [Option.bind_some, c, ↓reduceIte, List.nil_append]
theorem order_loop {s : List Int} (hs : Bytes s) : ∀ (n : Nat) (x : List Int) (a sd : Int), n + x.length ≤ 100 → 0 < n + x.length → 0 ≤ a → a + 2 * (n : Int) ≤ 10000 →
    ∃ o a' sd', Ev (fun k => spec_l1Cur_order.l0 k x (n : Int) s a sd) (o, a', sd') ∧ o.length ≤ 100 ∧ a ≤ a' ∧ a' ≤ a + 2 * (n : Int) + 6 := by
  intro n
  induction n with
  | zero =>
    intro x a sd hx hp h0 h1
    have c : ¬ ((0 : Nat) : Int) > 0 := by omega
    obtain ⟨m, a1, s1, e1, m0, m1, p1, q1⟩ := pick_ok hs a sd 40 h0 (by omega)
    by_cases c0 : m = 0
    · refine ⟨[], a1, s1, Ev.step (f := fun k => spec_l1Cur_order.l0 (k + 1) x ((0 : Nat) : Int) s a sd) (fun k => rfl) ?_, by decide, by omega, by omega⟩
      simp only [spec_l1Cur_order.l0, c, ↓reduceIte]
      refine Ev.bind (a := (m, a1, s1)) ⟨0, fun _ _ => e1⟩ ?_
      simp only [c0, ↓reduceIte]
      exact Ev.now _
    · by_cases c1 : m = 1
      · obtain ⟨i, a2, s2, e2, i0, i1, p2, q2⟩ := pick_ok hs a1 s1 (x.length : Int) (by omega) (by omega)
        obtain ⟨v, a3, s3, e3, _, p3, q3⟩ := among_ok hs a2 s2 ([0, 1, 8, (-1)] : List Int) (by omega) (by omega) (by decide)
        have ci : i < (x.length : Int) := by rcases i1 with h | h <;> omega
        refine ⟨x.set i.toNat v, a3, s3, Ev.step (f := fun k => spec_l1Cur_order.l0 (k + 1) x ((0 : Nat) : Int) s a sd) (fun k => rfl) ?_, by rw [List.length_set]; omega, by omega, by omega⟩
        simp only [spec_l1Cur_order.l0, c, ↓reduceIte]
        refine Ev.bind (a := (m, a1, s1)) ⟨0, fun _ _ => e1⟩ ?_
        simp only [c0, c1, ↓reduceIte]
        refine Ev.bind (a := (i, a2, s2)) ⟨0, fun _ _ => e2⟩ ?_
        refine Ev.bind (a := (v, a3, s3)) ⟨0, fun _ _ => e3⟩ ?_
        simp only [i0, ci, ↓reduceIte]
        exact Ev.now _
      · by_cases c2 : m = 2
        · refine ⟨[1, 2, 3, 4, 5, 6, 7, 8], a1, s1, Ev.step (f := fun k => spec_l1Cur_order.l0 (k + 1) x ((0 : Nat) : Int) s a sd) (fun k => rfl) ?_, by decide, by omega, by omega⟩
          simp only [spec_l1Cur_order.l0, c, ↓reduceIte]
          refine Ev.bind (a := (m, a1, s1)) ⟨0, fun _ _ => e1⟩ ?_
          simp only [c0, c1, c2, ↓reduceIte]
          exact Ev.now _
        · refine ⟨x, a1, s1, Ev.step (f := fun k => spec_l1Cur_order.l0 (k + 1) x ((0 : Nat) : Int) s a sd) (fun k => rfl) ?_, by omega, by omega, by omega⟩
          simp only [spec_l1Cur_order.l0, c, ↓reduceIte]
          refine Ev.bind (a := (m, a1, s1)) ⟨0, fun _ _ => e1⟩ ?_
          simp only [c0, c1, c2, ↓reduceIte]
          exact Ev.now _
  | succ n ih =>
    intro x a sd hx hp h0 h1
    have c : ((n + 1 : Nat) : Int) > 0 := by omega
    have ew := Aside0.mk (show wrap64 (((n + 1 : Nat) : Int) - 1) = (n : Int) from by rw [wr (by omega) (by omega)]; omega)
    have el := Aside0.mk (show wrap64 ((x.length : Int) + 1) = (x.length : Int) + 1 from wr (by omega) (by omega))
    obtain ⟨i, a1, s1, e1, i0, i1, p1, q1⟩ := pick_ok hs a sd ((x.length : Int) + 1) h0 (by omega)
    have ci : i ≤ (x.length : Int) := by rcases i1 with h | h <;> omega
    have ht : (x.take i.toNat).length ≤ x.length := by rw [List.length_take]; omega
    have hd : (x.drop i.toNat).length = x.length - i.toNat := List.length_drop
    have ht2 : (x.take i.toNat).length = i.toNat := by rw [List.length_take]; omega
    have hL : (x.take i.toNat ++ [(x.length : Int) + 1] ++ x.drop i.toNat).length = x.length + 1 := by rw [List.length_append, List.length_append, List.length_singleton]; omega
    have k1 : (x.take i.toNat).length + ([(x.length : Int) + 1] : List Int).length < 17592186044416 := by rw [List.length_singleton]; omega
    have k2 : (x.take i.toNat ++ [(x.length : Int) + 1]).length + (x.drop i.toNat).length < 17592186044416 := by rw [List.length_append, List.length_singleton]; omega
    obtain ⟨o, a', sd', hf, zo, p2, q2⟩ := ih (x.take i.toNat ++ [(x.length : Int) + 1] ++ x.drop i.toNat) a1 s1 (by rw [hL]; omega) (by rw [hL]; omega) (by omega) (by omega)
    refine ⟨o, a', sd', Ev.step (f := fun k => spec_l1Cur_order.l0 (k + 1) x ((n + 1 : Nat) : Int) s a sd) (fun k => rfl) ?_, zo, by omega, by omega⟩
    simp only [spec_l1Cur_order.l0, c, ew.out, el.out, ↓reduceIte]
    refine Ev.bind (a := (i, a1, s1)) ⟨0, fun _ _ => e1⟩ ?_
    simp only [i0, ci, own_eq (x.take i.toNat) (by omega), Option.bind_some, k1, k2, ↓reduceIte]
    exact hf
theorem order_ok {s : List Int} (hs : Bytes s) (a sd : Int) (h0 : 0 ≤ a) (h1 : a ≤ 1000) : ∃ o a' sd', Ev (fun k => spec_l1Cur_order.f k s a sd) (o, a', sd') ∧ o.length ≤ 100 ∧ a ≤ a' ∧ a' ≤ a + 30 := by
  obtain ⟨v, a1, s1, e1, hv, p1, q1⟩ := among_ok hs a sd ([4, 5, 3, 6, 2, 7, 1, 4] : List Int) h0 (by omega) (by decide)
  have hv2 : 1 ≤ v ∧ v ≤ 7 := (by decide : ∀ v ∈ ([4, 5, 3, 6, 2, 7, 1, 4] : List Int), 1 ≤ v ∧ v ≤ 7) v hv
  obtain ⟨n, hn⟩ : ∃ n : Nat, v = (n : Int) := ⟨v.toNat, by omega⟩
  subst hn
  obtain ⟨o, a', sd', hf, zo, p2, q2⟩ := order_loop hs n [] a1 s1 (by rw [List.length_nil]; omega) (by rw [List.length_nil]; omega) (by omega) (by omega)
  refine ⟨o, a', sd', ?_, zo, by omega, by omega⟩
  unfold spec_l1Cur_order.f
  exact Ev.bind (a := ((n : Int), a1, s1)) ⟨0, fun _ _ => e1⟩ hf
theorem word_loop {s : List Int} (hs : Bytes s) (n : Int) (hn : 0 ≤ n ∧ n ≤ 100) : ∀ (d : Nat) (w : ByteArray) (i a sd : Int), (w.size : Int) + d = 2 * n → -1000 ≤ i - (d : Int) → i + (d : Int) ≤ 1000 → 0 ≤ a → a + 2 * (d : Int) ≤ 10000 →
    ∃ w' a' sd', Ev (fun k => spec_l1Cur_word.l0 k n w i s a sd) (w', a', sd') ∧ w'.size ≤ 300 ∧ a ≤ a' ∧ a' ≤ a + 2 * (d : Int) + 10 := by
  intro d
  induction d with
  | zero =>
    intro w i a sd hw _ _ h0 h1
    have e2 := Aside0.mk (show wrap64 (2 * n) = 2 * n from wr (by omega) (by omega))
    have c : ¬ (w.size : Int) < 2 * n := by omega
    obtain ⟨b, a1, s1, e1, p1, q1⟩ := one_ok hs a sd 24 h0 (by omega)
    cases b with
    | true =>
      obtain ⟨t, a2, s2, e3, z, p2, q2⟩ := spoilt_ok hs a1 s1 w (⟨#[73, 79, 88]⟩ : ByteArray) (by omega) (by omega) (by omega) (by decide)
      refine ⟨t, a2, s2, Ev.step (f := fun k => spec_l1Cur_word.l0 (k + 1) n w i s a sd) (fun k => rfl) ?_, by omega, by omega, by omega⟩
      simp only [spec_l1Cur_word.l0, e2.out, c, ↓reduceIte]
      refine Ev.bind (a := (true, a1, s1)) ⟨0, fun _ _ => e1⟩ ?_
      simp only [↓reduceIte]
      exact Ev.bind (a := (t, a2, s2)) ⟨0, fun _ _ => e3⟩ (Ev.now _)
    | false =>
      refine ⟨w, a1, s1, Ev.step (f := fun k => spec_l1Cur_word.l0 (k + 1) n w i s a sd) (fun k => rfl) ?_, by omega, by omega, by omega⟩
      simp only [spec_l1Cur_word.l0, e2.out, c, ↓reduceIte]
      refine Ev.bind (a := (false, a1, s1)) ⟨0, fun _ _ => e1⟩ ?_
      simp only [Bool.false_eq_true, ↓reduceIte]
      exact Ev.now _
  | succ d ih =>
    intro w i a sd hw hi1 hi2 h0 h1
    have e2 := Aside0.mk (show wrap64 (2 * n) = 2 * n from wr (by omega) (by omega))
    have e3 := Aside0.mk (show wrap64 (2 * n - (w.size : Int)) = 2 * n - (w.size : Int) from wr (by omega) (by omega))
    have e4 := Aside0.mk (show wrap64 (i + 1) = i + 1 from wr (by omega) (by omega))
    have e5 := Aside0.mk (show wrap64 (i - 1) = i - 1 from wr (by omega) (by omega))
    have c : (w.size : Int) < 2 * n := by omega
    have z : w.size + 1 ≤ 9223372036854775807 := by omega
    have zI : ((w ++ (⟨#[73]⟩ : ByteArray)).size : Int) + (d : Int) = 2 * n := by rw [size_append, show (⟨#[73]⟩ : ByteArray).size = 1 from rfl]; omega
    have zO : ((w ++ (⟨#[79]⟩ : ByteArray)).size : Int) + (d : Int) = 2 * n := by rw [size_append, show (⟨#[79]⟩ : ByteArray).size = 1 from rfl]; omega
    by_cases c0 : i = 0
    · obtain ⟨w', a', sd', hf, hz, p2, q2⟩ := ih (w ++ (⟨#[73]⟩ : ByteArray)) (i + 1) a sd zI (by omega) (by omega) h0 (by omega)
      refine ⟨w', a', sd', Ev.step (fun k => ?_) hf, hz, by omega, by omega⟩
      simp only [spec_l1Cur_word.l0, e2.out, c, c0, z, ↓reduceIte]
      rw [← c0, e4.out]
    · by_cases c1 : i < 2 * n - (w.size : Int)
      · obtain ⟨b, a1, s1, e1, p1, q1⟩ := one_ok hs a sd 2 h0 (by omega)
        cases b with
        | true =>
          obtain ⟨w', a', sd', hf, hz, p2, q2⟩ := ih (w ++ (⟨#[73]⟩ : ByteArray)) (i + 1) a1 s1 zI (by omega) (by omega) (by omega) (by omega)
          refine ⟨w', a', sd', Ev.step (f := fun k => spec_l1Cur_word.l0 (k + 1) n w i s a sd) (fun k => rfl) ?_, hz, by omega, by omega⟩
          simp only [spec_l1Cur_word.l0, e2.out, e3.out, e4.out, c, c0, c1, ↓reduceIte]
          refine Ev.bind (a := (true, a1, s1)) ⟨0, fun _ _ => e1⟩ ?_
          simp only [z, ↓reduceIte]
          exact hf
        | false =>
          obtain ⟨w', a', sd', hf, hz, p2, q2⟩ := ih (w ++ (⟨#[79]⟩ : ByteArray)) (i - 1) a1 s1 zO (by omega) (by omega) (by omega) (by omega)
          refine ⟨w', a', sd', Ev.step (f := fun k => spec_l1Cur_word.l0 (k + 1) n w i s a sd) (fun k => rfl) ?_, hz, by omega, by omega⟩
          simp only [spec_l1Cur_word.l0, e2.out, e3.out, e5.out, c, c0, c1, ↓reduceIte]
          refine Ev.bind (a := (false, a1, s1)) ⟨0, fun _ _ => e1⟩ ?_
          simp only [Bool.false_eq_true, z, ↓reduceIte]
          exact hf
      · obtain ⟨w', a', sd', hf, hz, p2, q2⟩ := ih (w ++ (⟨#[79]⟩ : ByteArray)) (i - 1) a sd zO (by omega) (by omega) h0 (by omega)
        refine ⟨w', a', sd', Ev.step (fun k => ?_) hf, hz, by omega, by omega⟩
        simp only [spec_l1Cur_word.l0, e2.out, e3.out, e5.out, c, c0, c1, z, ↓reduceIte]
theorem word_ok {s : List Int} (hs : Bytes s) (a sd n : Int) (h0 : 0 ≤ a) (h1 : a ≤ 1000) (hn : 0 ≤ n ∧ n ≤ 100) : ∃ w a' sd', Ev (fun k => spec_l1Cur_word.f k s a sd n) (w, a', sd') ∧ w.size ≤ 300 ∧ a ≤ a' ∧ a' ≤ a + 500 := by
  obtain ⟨w, a', sd', hf, z, p, q⟩ := word_loop hs n hn (2 * n).toNat (⟨#[]⟩ : ByteArray) 0 a sd (by rw [show (⟨#[]⟩ : ByteArray).size = 0 from rfl]; omega) (by omega) (by omega) h0 (by omega)
  exact ⟨w, a', sd', hf, z, by omega, by omega⟩
theorem begun_j1 {s : List Int} (hs : Bytes s) (o : List Int) (a sd : Int) (ho : o.length ≤ 100) (h0 : 0 ≤ a) (h1 : a ≤ 500) : ∃ w a' sd', Ev (fun k => spec_l1Cur_begun.j1 k o s a sd) (o, w, a', sd') ∧ w.size ≤ 300 := by
  obtain ⟨w, a1, s1, hw, z, p1, q1⟩ := word_ok hs a sd (o.length : Int) h0 (by omega) (by omega)
  by_cases c : (w.size : Int) > 0
  · obtain ⟨b, a2, s2, e2, p2, q2⟩ := one_ok hs a1 s1 6 (by omega) (by omega)
    cases b with
    | true =>
      refine ⟨w, a2, s2, Ev.step (f := fun k => spec_l1Cur_begun.j1 (k + 1) o s a sd) (fun k => rfl) ?_, z⟩
      simp only [spec_l1Cur_begun.j1]
      refine Ev.bind hw ?_
      simp only [c, ↓reduceIte]
      refine Ev.bind (a := (true, a2, s2)) ⟨0, fun _ _ => e2⟩ ?_
      simp only [↓reduceIte]
      exact Ev.now _
    | false =>
      have ew := Aside0.mk (show wrap64 ((w.size : Int) + 1) = (w.size : Int) + 1 from wr (by omega) (by omega))
      obtain ⟨i, a3, s3, e3, i0, i1, p3, q3⟩ := pick_ok hs a2 s2 ((w.size : Int) + 1) (by omega) (by omega)
      have ci : i ≤ (w.size : Int) := by rcases i1 with h | h <;> omega
      have zt := (size_to w i.toNat).2
      refine ⟨w.extract 0 i.toNat, a3, s3, Ev.step (f := fun k => spec_l1Cur_begun.j1 (k + 1) o s a sd) (fun k => rfl) ?_, by omega⟩
      simp only [spec_l1Cur_begun.j1]
      refine Ev.bind hw ?_
      simp only [c, ↓reduceIte]
      refine Ev.bind (a := (false, a2, s2)) ⟨0, fun _ _ => e2⟩ ?_
      simp only [Bool.false_eq_true, ew.out, ↓reduceIte]
      refine Ev.bind (a := (i, a3, s3)) ⟨0, fun _ _ => e3⟩ ?_
      simp only [i0, ci, ↓reduceIte]
      exact Ev.now _
  · refine ⟨w, a1, s1, Ev.step (f := fun k => spec_l1Cur_begun.j1 (k + 1) o s a sd) (fun k => rfl) ?_, z⟩
    simp only [spec_l1Cur_begun.j1]
    refine Ev.bind hw ?_
    simp only [c, ↓reduceIte]
    exact Ev.now _
theorem begun_j0 {s : List Int} (hs : Bytes s) (o : List Int) (b : Bool) (a sd : Int) (ho : o.length ≤ 100) (h0 : 0 ≤ a) (h1 : a ≤ 500) : ∃ o' w a' sd', Ev (fun k => spec_l1Cur_begun.j0 k o b s a sd) (o', w, a', sd') ∧ o'.length ≤ 100 ∧ w.size ≤ 300 := by
  cases b with
  | true =>
    obtain ⟨w, a', sd', hw, z⟩ := begun_j1 hs [4, 1, 5, 2, 3] a sd (by decide) h0 h1
    exact ⟨_, w, a', sd', Ev.step (fun k => by simp only [spec_l1Cur_begun.j0, ↓reduceIte]) hw, by decide, z⟩
  | false =>
    obtain ⟨w, a', sd', hw, z⟩ := begun_j1 hs o a sd ho h0 h1
    exact ⟨_, w, a', sd', Ev.step (fun k => by simp only [spec_l1Cur_begun.j0, Bool.false_eq_true, ↓reduceIte]) hw, ho, z⟩
theorem begun_ok {s : List Int} (hs : Bytes s) : ∃ o w a' sd', Ev (fun k => spec_l1Cur_begun.f k s 0 0) (o, w, a', sd') ∧ o.length ≤ 100 ∧ w.size ≤ 300 := by
  obtain ⟨o, a1, s1, ho, z, p1, q1⟩ := order_ok hs 0 0 (by omega) (by omega)
  unfold spec_l1Cur_begun.f
  by_cases c : (o.length : Int) > 5
  · obtain ⟨b, a2, s2, e2, p2, q2⟩ := one_ok hs a1 s1 8 (by omega) (by omega)
    obtain ⟨o', w, a', sd', hf, z1, z2⟩ := begun_j0 hs o (!b) a2 s2 z (by omega) (by omega)
    refine ⟨o', w, a', sd', Ev.bind ho ?_, z1, z2⟩
    simp only [c, ↓reduceIte]
    exact Ev.bind (a := (b, a2, s2)) ⟨0, fun _ _ => e2⟩ hf
  · obtain ⟨o', w, a', sd', hf, z1, z2⟩ := begun_j0 hs o false a1 s1 z (by omega) (by omega)
    refine ⟨o', w, a', sd', Ev.bind ho ?_, z1, z2⟩
    simp only [c, ↓reduceIte]
    exact hf
theorem ev_rInts (l : List Int) (hl : l.length ≤ 1048576) : Ev (fun k => laws_rInts.f k l l) true := by
  have go : ∀ (m j : Nat), j + m = l.length → Ev (fun k => laws_rInts.l0 k l l (j : Int)) true := by
    intro m
    induction m with
    | zero =>
      intro j hj
      have c : ¬ (j : Int) < (l.length : Int) := by omega
      exact Ev.step (f := fun _ => some true) (fun k => by simp only [laws_rInts.l0, c, ↓reduceIte]) (Ev.now _)
    | succ m ih =>
      intro j hj
      have c : (j : Int) < (l.length : Int) := by omega
      have c0 : 0 ≤ (j : Int) := by omega
      have e3 := Aside0.mk (show wrap64 ((j : Int) + 1) = ((j + 1 : Nat) : Int) from wj (by omega))
      exact Ev.step (fun k => by simp only [laws_rInts.l0, c, c0, e3.out, ↓reduceIte]) (ih (j + 1) (by omega))
  unfold laws_rInts.f
  simp only [↓reduceIte]
  exact go l.length 0 (by omega)
def sm : List Int → Int
  | [] => 0
  | x :: t => x + sm t
theorem sm_append : ∀ a b : List Int, sm (a ++ b) = sm a + sm b
  | [], b => by simp [sm]
  | x :: a, b => by
    rw [List.cons_append, sm, sm, sm_append a b]
    omega
def tot : List Int → List Int → List Int → Int
  | [], _, _ => 0
  | c :: t, rest, st => if c = 73 then tot t rest.tail (st ++ [rest.headD 0]) else st.getLastD 0 + tot t rest st.dropLast
theorem tot_all (n : Int) : ∀ (cs rest st : List Int) (p q : Int), beg n cs p q = some (n, n) → (st.length : Int) = p - q → (rest.length : Int) = n - p → tot cs rest st = sm st + sm rest
  | [], rest, st, p, q, h, hs, hr => by
    simp only [beg, Option.some.injEq, Prod.mk.injEq] at h
    obtain ⟨rfl, rfl⟩ := h
    obtain rfl := List.eq_nil_of_length_eq_zero (l := st) (by omega)
    obtain rfl := List.eq_nil_of_length_eq_zero (l := rest) (by omega)
    rfl
  | c :: t, rest, st, p, q, h, hs, hr => by
    rw [beg] at h
    rw [tot]
    by_cases h73 : c = 73
    · rw [if_pos h73] at h ⊢
      by_cases hp : p < n
      · rw [if_pos hp] at h
        cases rest with
        | nil => simp at hr; omega
        | cons x r =>
          rw [List.length_cons] at hr
          rw [List.tail_cons, List.headD_cons, tot_all n t r (st ++ [x]) (p + 1) q h (by simp; omega) (by omega), sm_append, sm, sm, sm]
          omega
      · rw [if_neg hp] at h
        cases h
    · rw [if_neg h73] at h ⊢
      by_cases h79 : c = 79
      · rw [if_pos h79] at h
        by_cases hq : q < p
        · rw [if_pos hq] at h
          rcases snoc_cases st with rfl | ⟨s, x, rfl⟩
          · simp at hs; omega
          · rw [List.length_append, List.length_singleton] at hs
            have e1 : (s ++ [x]).getLastD 0 = x := by simp
            rw [e1, List.dropLast_concat, tot_all n t rest s p (q + 1) h (by omega) hr, sm_append, sm, sm]
            omega
        · rw [if_neg hq] at h
          cases h
      · rw [if_neg h79] at h
        cases h
def psg (F : Nat → Int) : Nat → Nat → Int
  | 0, _ => 0
  | d + 1, i => F i + psg F d (i + 1)
theorem psg_shift (F : Nat → Int) : ∀ d i, psg F d (i + 1) = psg (fun j => F (j + 1)) d i
  | 0, _ => rfl
  | d + 1, i => by rw [psg, psg, psg_shift F d (i + 1)]
theorem psg_tot : ∀ (cs rest st : List Int) (pd : Int), psg (fun i => (stk (cs.take (i + 1)) rest st pd).2) cs.length 0 = tot cs rest st
  | [], _, _, _ => rfl
  | c :: t, rest, st, pd => by
    rw [List.length_cons, psg, psg_shift, tot]
    by_cases h : c = 73
    · have e := psg_tot t rest.tail (st ++ [rest.headD 0]) 0
      simp only [List.take_succ_cons, List.take_zero, stk, h, ↓reduceIte]
      rw [e]
      omega
    · have e := psg_tot t rest st.dropLast (st.getLastD 0)
      simp only [List.take_succ_cons, List.take_zero, stk, h, ↓reduceIte]
      rw [e]
theorem scr_sum {l : List Int} {w : ByteArray} (h : duelB l w = true) (hw : w.size ≤ 14) : ∀ (d i : Nat) (s0 s1 : Int), i + d = w.size → 0 ≤ s0 → 0 ≤ s1 → s0 + s1 ≤ 7 * (i : Int) → (scr l w d i s0 s1).1 + (scr l w d i s0 s1).2 = s0 + s1 + psg (popd l w) d i
  | 0, _, _, _, _, _, _, _ => by simp [scr, psg]
  | d + 1, i, s0, s1, hi, h0, h1, hs => by
    have hp := popd_bound h i (by omega)
    simp only [scr, psg]
    split
    · rw [wr (by omega) (by omega), scr_sum h hw d (i + 1) _ s1 (by omega) (by omega) h1 (by omega)]
      omega
    · rw [wr (by omega) (by omega), scr_sum h hw d (i + 1) s0 _ (by omega) h0 (by omega) (by omega)]
      omega
theorem sum6 : ∀ n ∈ [1, 2, 3, 4, 5, 6], (ords n).all (fun o => sm o == (((n * (n + 1) / 2 : Nat)) : Int)) = true := by decide +kernel
theorem scr_split (l : List Int) (w : ByteArray) : ∀ (d e i : Nat) (s0 s1 : Int), scr l w (d + e) i s0 s1 = scr l w e (i + d) (scr l w d i s0 s1).1 (scr l w d i s0 s1).2
  | 0, e, i, s0, s1 => by rw [Nat.zero_add, Nat.add_zero]; rfl
  | d + 1, e, i, s0, s1 => by
    rw [show d + 1 + e = d + e + 1 by omega]
    simp only [scr]
    split
    · rw [scr_split l w d e (i + 1), show i + 1 + d = i + (d + 1) by omega]
    · rw [scr_split l w d e (i + 1), show i + 1 + d = i + (d + 1) by omega]
theorem scr_pre (l : List Int) {w s : ByteArray} (h : (bs w).take s.size = bs s) : ∀ (d i : Nat) (s0 s1 : Int), i + d ≤ s.size → scr l w d i s0 s1 = scr l s d i s0 s1
  | 0, _, _, _, _ => rfl
  | d + 1, i, s0, s1, hi => by
    have e : popd l w i = popd l s i := by
      unfold popd
      rw [← h, List.take_take, Nat.min_eq_left (by omega)]
    simp only [scr, e]
    split
    · exact scr_pre l h d (i + 1) _ _ (by omega)
    · exact scr_pre l h d (i + 1) _ _ (by omega)
theorem beg_hgt (n : Int) : ∀ (cs : List Int) (p q p' q' : Int), beg n cs p q = some (p', q') → hgt cs (p - q) = some (p' - q')
  | [], p, q, p', q', h => by
    simp only [beg, Option.some.injEq, Prod.mk.injEq] at h
    obtain ⟨rfl, rfl⟩ := h
    rfl
  | c :: t, p, q, p', q', h => by
    rw [beg] at h
    rw [hgt]
    by_cases h73 : c = 73
    · rw [if_pos h73] at h ⊢
      split at h
      · have := beg_hgt n t _ _ _ _ h
        rw [show p + 1 - q = p - q + 1 by omega] at this
        exact this
      · cases h
    · rw [if_neg h73] at h ⊢
      by_cases h79 : c = 79
      · rw [if_pos h79] at h ⊢
        split at h
        · have := beg_hgt n t _ _ _ _ h
          rw [if_neg (by omega)]
          rw [show p - (q + 1) = p - q - 1 by omega] at this
          exact this
        · cases h
      · rw [if_neg h79] at h
        cases h
theorem scr_bound {l : List Int} {w : ByteArray} (h : duelB l w = true) (hw : w.size ≤ 14) : ∀ (d i : Nat) (s0 s1 : Int), i + d ≤ w.size → 0 ≤ s0 → s0 ≤ 7 * (i : Int) → 0 ≤ s1 → s1 ≤ 7 * (i : Int) → 0 ≤ (scr l w d i s0 s1).1 ∧ (scr l w d i s0 s1).1 ≤ 7 * ((i + d : Nat) : Int) ∧ 0 ≤ (scr l w d i s0 s1).2 ∧ (scr l w d i s0 s1).2 ≤ 7 * ((i + d : Nat) : Int)
  | 0, i, s0, s1, _, h0, h0', h1, h1' => ⟨h0, h0', h1, h1'⟩
  | d + 1, i, s0, s1, hi, h0, h0', h1, h1' => by
    have hp := popd_bound h i (by omega)
    simp only [scr]
    rw [show i + (d + 1) = i + 1 + d by omega]
    split
    · rw [wr (by omega) (by omega)]
      exact scr_bound h hw d (i + 1) _ s1 (by omega) (by omega) (by omega) h1 (by omega)
    · rw [wr (by omega) (by omega)]
      exact scr_bound h hw d (i + 1) s0 _ (by omega) h0 (by omega) (by omega) (by omega)
theorem ev_Scores {l : List Int} {s : ByteArray} (h : duelB l s = true) (hs : s.size ≤ 1048576) : Ev (fun k => impl_ScoresOf.f k l s) ((scr l s s.size 0 0 0).1, (scr l s s.size 0 0 0).2, true) := by
  unfold impl_ScoresOf.f
  refine Ev.bind (ev_isDuel l s hs) ?_
  simp only [h, hs, ↓reduceIte]
  exact Ev.bind (ev_iscore l s h s.size 0 0 0 (by omega)) (Ev.now _)
def dwV (l : List Int) (s : ByteArray) : ByteArray × Bool := if duelB l s = true then (dw l 20 s, true) else (⟨#[]⟩, false)
def nwV (l : List Int) (s : ByteArray) : Int × Bool := if duelB l s = true then (nw l 14 s, true) else (0, false)
def fsV (l : List Int) : Bool × Bool := if duelB l ⟨#[]⟩ = true then (vl l 14 ⟨#[]⟩ == 0, true) else (false, false)
theorem both_DW (l : List Int) (s : ByteArray) (hs : s.size ≤ 1048576) : Ev (fun k => spec_DuelWord.f k l s) (dwV l s) ∧ Ev (fun k => impl_DuelWord.f k l s) (dwV l s) := by
  unfold dwV
  constructor
  · unfold spec_DuelWord.f
    refine Ev.bind (ev_l11Good l s (by omega)) ?_
    by_cases h : duelB l s = true
    · obtain ⟨_, _, h6, _⟩ := duelB_facts h
      simp only [h, ↓reduceIte]
      exact ev_specWord l 20 s h (by omega)
    · simp only [h, Bool.false_eq_true, ↓reduceIte]
      exact Ev.now _
  · unfold impl_DuelWord.f
    refine Ev.bind (ev_isDuel l s (by omega)) ?_
    by_cases h : duelB l s = true
    · obtain ⟨_, _, h6, _⟩ := duelB_facts h
      simp only [h, ↓reduceIte]
      refine Ev.bind (ev_dbest l s h) (Ev.bind (ev_dword l 20 s h (by omega)) ?_)
      have hz := dw_size l 20 s
      simp only [strings_Clone.f, show ((dw l 20 s).size ≤ 1000000000) = True from eq_true (by omega), ↓reduceIte, Option.bind_some]
      exact Ev.now _
    · simp only [h, Bool.false_eq_true, ↓reduceIte]
      exact Ev.now _
theorem both_NW (l : List Int) (s : ByteArray) (hs : s.size ≤ 1048576) : Ev (fun k => spec_CountBestWords.f k l s) (nwV l s) ∧ Ev (fun k => impl_CountBestWords.f k l s) (nwV l s) := by
  unfold nwV
  constructor
  · unfold spec_CountBestWords.f
    refine Ev.bind (ev_l11Good l s (by omega)) ?_
    by_cases h : duelB l s = true
    · obtain ⟨_, _, h6, _⟩ := duelB_facts h
      simp only [h, ↓reduceIte]
      exact Ev.bind (ev_l11Words l 14 s (by decide) h (by omega)) (Ev.now _)
    · simp only [h, Bool.false_eq_true, ↓reduceIte]
      exact Ev.now _
  · unfold impl_CountBestWords.f
    refine Ev.bind (ev_isDuel l s (by omega)) ?_
    by_cases h : duelB l s = true
    · obtain ⟨_, _, h6, _⟩ := duelB_facts h
      simp only [h, ↓reduceIte]
      exact Ev.bind (ev_dwords l 14 s h (by omega)) (Ev.now _)
    · simp only [h, Bool.false_eq_true, ↓reduceIte]
      exact Ev.now _
theorem both_FS (l : List Int) : Ev (fun k => spec_FairStart.f k l) (fsV l) ∧ Ev (fun k => impl_FairStart.f k l) (fsV l) := by
  have hs0 : (⟨#[]⟩ : ByteArray).size ≤ 1048576 := by decide
  unfold fsV
  constructor
  · unfold spec_FairStart.f
    refine Ev.bind (ev_l11Good l ⟨#[]⟩ hs0) ?_
    by_cases h : duelB l ⟨#[]⟩ = true
    · simp only [h, ↓reduceIte]
      exact Ev.bind (ev_l11Value l ⟨#[]⟩ h) (Ev.now _)
    · simp only [h, Bool.false_eq_true, ↓reduceIte]
      exact Ev.now _
  · unfold impl_FairStart.f
    refine Ev.bind (ev_DuelValue l ⟨#[]⟩ hs0) ?_
    by_cases h : duelB l ⟨#[]⟩ = true
    · simp only [h, ↓reduceIte]
      exact Ev.now _
    · simp only [h, Bool.false_eq_true, ↓reduceIte]
      exact Ev.now _
theorem w3 {a b a' b' v : Int} (z : Nat) (hz : z ≤ 14) (h1 : 0 ≤ a') (h2 : a' ≤ 7 * (z : Int)) (h3 : 0 ≤ b') (h4 : b' ≤ 7 * (z : Int)) (h5 : 0 ≤ a) (h6 : a ≤ 98) (h7 : 0 ≤ b) (h8 : b ≤ 98) (e : (a' - a) - (b' - b) = v) : wrap64 (wrap64 (wrap64 (a' - a) - b') + b) = v := by
  rw [wr (i := a' - a) (by omega) (by omega), wr (i := a' - a - b') (by omega) (by omega), wr (by omega) (by omega)]
  omega
/-- The last stage: the word's scores. -/
theorem ev_j5 (o : List Int) (s : ByteArray) (hz : s.size ≤ 1048576) : Ev (fun k => laws_FnDuelWords.j5 k o s (dwV o s).1 (dwV o s).2) true := by
  by_cases h : duelB o s = true
  · have ed : dwV o s = (dw o 20 s, true) := by unfold dwV; rw [if_pos h]
    rw [ed]
    obtain ⟨ho, h1, h6, hzs, _⟩ := duelB_facts h
    obtain ⟨a1, a2, a3, a4, a5⟩ := dw_all o 20 s h (by omega)
    obtain ⟨_, _, _, hzw, _⟩ := duelB_facts a1
    generalize dw o 20 s = w at a1 a2 a3 a4 a5 hzw ⊢
    have hb0 := beg_bounds (o.length : Int) (bs w) 0 0 _ _ (Int.le_refl _) (by omega) a4
    rw [bs_length] at hb0
    have hw14 : w.size ≤ 14 := by omega
    have v1 := ev_DuelValue o s hz
    rw [if_pos h] at v1
    have v2 := ev_Scores h hz
    have v3 := ev_Scores a1 (by omega)
    have v4 : Ev (fun k => impl_IsWord.f k w) true := by
      have hw : wordB w = true := by
        unfold wordB
        have := beg_hgt _ _ _ _ _ _ a4
        rw [Int.sub_self, Int.sub_self] at this
        simp only [Bool.and_eq_true, decide_eq_true_eq]
        exact ⟨this, by omega, by omega⟩
      have := ev_isWordAny w (by omega)
      rw [hw] at this
      unfold impl_IsWord.f
      exact Ev.bind this (Ev.now _)
    have sb := scr_bound h (by omega) s.size 0 0 0 (by omega) (by omega) (by omega) (by omega) (by omega)
    have e1 := scr_split o w s.size (w.size - s.size) 0 0 0
    rw [scr_pre o a3 s.size 0 0 0 (by omega), show s.size + (w.size - s.size) = w.size by omega, Nat.zero_add] at e1
    generalize scr o s s.size 0 0 0 = S at v2 sb e1
    obtain ⟨a, b⟩ := S
    dsimp only at v2 sb e1
    rw [Nat.zero_add] at sb
    obtain ⟨a', b', f1, f2, f3, f4, f5, f6⟩ := a5 a b (by omega) (by omega) (by omega) (by omega)
    rw [f1] at e1
    have hsum := scr_sum a1 hw14 w.size 0 0 0 (by omega) (by omega) (by omega) (by omega)
    have hps := psg_tot (bs w) o [] 0
    rw [bs_length, tot_all (o.length : Int) (bs w) o [] 0 0 a4 rfl (by omega), sm, Int.zero_add] at hps
    have hpe : psg (popd o w) w.size 0 = sm o := hps
    rw [hpe] at hsum
    rw [e1] at v3 hsum
    dsimp only at v3 hsum
    have hws := Aside0.mk (show wrap64 (a' + b') = a' + b' from wr (by omega) (by omega))
    have hab : a' + b' = sm o := by omega
    have hsm := Aside0.mk (show wrap64 (Int.tdiv (wrap64 ((o.length : Int) * (wrap64 ((o.length : Int) + 1)))) 2) = sm o from by
      have hm := ordB_ords ho
      have hn : o.length ∈ [1, 2, 3, 4, 5, 6] := by
        have : o.length = 1 ∨ o.length = 2 ∨ o.length = 3 ∨ o.length = 4 ∨ o.length = 5 ∨ o.length = 6 := by omega
        simpa using this
      have hs := eq_of_beq (List.all_eq_true.1 (sum6 o.length hn) o hm)
      rw [hs]
      have : o.length = 1 ∨ o.length = 2 ∨ o.length = 3 ∨ o.length = 4 ∨ o.length = 5 ∨ o.length = 6 := by omega
      rcases this with q | q | q | q | q | q <;> rw [q] <;> decide +kernel)
    have hvb := vl_bound ho 14 (by decide) s
    have hbeq : (wrap64 (a' + b') == wrap64 (Int.tdiv (wrap64 ((o.length : Int) * (wrap64 ((o.length : Int) + 1)))) 2)) = true := by
      rw [hsm.out, hws.out, beq_iff_eq]
      exact hab
    have hpre : (w.extract 0 ((s.size : Int) : Int).toNat).toList = s.toList := by
      have : w.extract 0 ((s.size : Int) : Int).toNat = s := bs_inj (by rw [Int.toNat_natCast, bs_prefix, a3])
      rw [this]
    have c0 : 0 ≤ (s.size : Int) := by omega
    have c1 : (s.size : Int) ≤ (w.size : Int) := by omega
    refine Ev.step (f := fun k => laws_FnDuelWords.j5 (k + 1) o s w true) (fun k => rfl) ?_
    simp only [laws_FnDuelWords.j5, ↓reduceIte]
    refine Ev.bind v1 (Ev.bind v2 (Ev.bind v3 ?_))
    simp only [↓reduceIte]
    refine Ev.bind v4 ?_
    simp only [c0, c1, hpre, hbeq, ↓reduceIte]
    by_cases hpar : s.size % 2 = 0
    · rw [if_pos hpar] at f2
      have p0 : (s.size : Int) % 2 = 0 := by omega
      have p2 : ¬ (1 : Int) - 0 = 0 := by decide
      have p3 : (1 : Int) - 0 = 1 := by decide
      have hv : wrap64 (wrap64 (wrap64 (a' - a) - b') + b) = vl o 14 s := by
        exact w3 w.size (by omega) f3 f4 f5 f6 (by omega) (by omega) (by omega) (by omega) (by omega)
      simp only [p0, p2, p3, hv, ↓reduceIte]
      exact Ev.now _
    · rw [if_neg hpar] at f2
      have p0 : (s.size : Int) % 2 = 1 := by omega
      have p1 : ¬ (1 : Int) = 0 := by decide
      have p2 : (1 : Int) - 1 = 0 := by decide
      have hv : wrap64 (wrap64 (wrap64 (b' - b) - a') + a) = vl o 14 s := by
        exact w3 w.size (by omega) f5 f6 f3 f4 (by omega) (by omega) (by omega) (by omega) (by omega)
      simp only [p0, p1, p2, hv, ↓reduceIte]
      exact Ev.now _
  · have ed : dwV o s = ((⟨#[]⟩ : ByteArray), false) := by unfold dwV; rw [if_neg h]
    rw [ed]
    exact Ev.step (f := fun _ => some true) (fun k => by simp only [laws_FnDuelWords.j5, Bool.false_eq_true, ↓reduceIte]) (Ev.now _)
theorem draw_words {s : List Int} (hs : Bytes s) : ∃ o w, Ev (fun k => spec_DrawDuelWord.f k s) (o, w) ∧ o.length ≤ 100 ∧ w.size ≤ 300 := by
  obtain ⟨o, w, a', sd', h, z1, z2⟩ := begun_ok hs
  refine ⟨o, w, ?_, z1, z2⟩
  unfold spec_DrawDuelWord.f spec_DrawStackAfter.f
  exact Ev.bind (Ev.bind h (Ev.now _)) (Ev.now _)
theorem draw_fair {s : List Int} (hs : Bytes s) : ∃ o, Ev (fun k => spec_DrawFairStart.f k s) o := by
  obtain ⟨o, w, a', sd', h, z1, z2⟩ := begun_ok hs
  unfold spec_DrawFairStart.f
  exact ⟨o, Ev.bind h (Ev.now _)⟩
theorem draw_far {s : List Int} (hs : Bytes s) : ∃ n, spec_DrawMostDuel.f s = some n := by
  unfold spec_DrawMostDuel.f
  obtain ⟨v, a1, s1, e1, _, p1, q1⟩ := among_ok hs 0 0 ([3, 2, 1, 4, 0, 6, 3, 2, 4] : List Int) (by omega) (by omega) (by decide)
  rw [e1]
  exact ⟨v, rfl⟩
theorem FnDuelWords : laws_FnDuelWords.Pure := by
  intro s hl1 hl2 hwf
  have hs := bytes_of hwf
  refine Ev.rounds (g := fun k => laws_FnDuelWords.f k s) ?_
  unfold laws_FnDuelWords.f
  refine Ev.bind (a := decide ((s.length : Int) > 65536)) ⟨0, fun _ _ => rfl⟩ ?_
  by_cases hbig : (s.length : Int) > 65536
  · simp only [hbig, decide_true, ↓reduceIte]
    exact Ev.now _
  · simp only [hbig, decide_false, Bool.false_eq_true, ↓reduceIte]
    obtain ⟨o, so, hd, zo, zs⟩ := draw_words hs
    obtain ⟨x, hx⟩ := draw_fair hs
    obtain ⟨n, hn⟩ := draw_far hs
    obtain ⟨w1, w2⟩ := both_DW o so (by omega)
    obtain ⟨c1, c2⟩ := both_NW o so (by omega)
    obtain ⟨f1, f2⟩ := both_FS x
    obtain ⟨⟨m1, ml, m3⟩, hml, mS, mI, mb, mf⟩ := both_far 1 (by decide) (fun a b => decide (b < a)) (fun a b => by simp only [Int.one_mul]) n
    obtain ⟨⟨q1, ql, q3⟩, hql, qS, qI, qb, qf⟩ := both_far (-1) (by decide) (fun a b => decide (a < b)) (fun a b => by rw [decide_eq_decide]; omega) n
    dsimp only at hml mb mf hql qb qf
    have g1 : Ev (fun k => spec_MostDuel.f k n) (m1, ml, m3) := by
      unfold spec_MostDuel.f
      exact Ev.bind mS (Ev.now _)
    have g2 : Ev (fun k => impl_MostDuel.f k n) (m1, ml, m3) := mI
    have g3 : Ev (fun k => spec_LeastDuel.f k n) (q1, ql, q3) := by
      unfold spec_LeastDuel.f
      exact Ev.bind qS (Ev.now _)
    have g4 : Ev (fun k => impl_LeastDuel.f k n) (q1, ql, q3) := qI
    have e34 : q3 = m3 := by rw [qb, mb]
    subst e34
    have k5 := ev_j5 o so (by omega)
    have k4 : Ev (fun k => laws_FnDuelWords.j4 k o so (dwV o so).1 (dwV o so).2 x (fsV x).1 (fsV x).2 n m1 q3 q1 false) true := by
      by_cases hx : duelB x ⟨#[]⟩ = true
      · have ef : fsV x = (vl x 14 ⟨#[]⟩ == 0, true) := by unfold fsV; rw [if_pos hx]
        rw [ef]
        have hv := ev_DuelValue x ⟨#[]⟩ (by decide)
        rw [if_pos hx] at hv
        refine Ev.step (f := fun k => laws_FnDuelWords.j4 (k + 1) o so (dwV o so).1 (dwV o so).2 x (vl x 14 ⟨#[]⟩ == 0) true n m1 q3 q1 false) (fun k => rfl) ?_
        simp only [laws_FnDuelWords.j4, Bool.false_eq_true, ↓reduceIte]
        refine Ev.bind hv ?_
        simp only [bne_self_eq_false, Bool.false_eq_true, ↓reduceIte]
        cases q3 with
        | false =>
          simp only [Bool.false_eq_true, ↓reduceIte]
          exact k5
        | true =>
          by_cases hlen : (x.length : Int) = n
          · have hm := ordB_ords (duelB_facts hx).1
            have en : n.toNat = x.length := by omega
            rw [en] at mf qf
            have b1 := (mf rfl).2 x hm
            have b2 := (qf rfl).2 x hm
            unfold Vn at b1 b2
            have n1 : ¬ vl x 14 ⟨#[]⟩ > m1 := by omega
            have n2 : ¬ vl x 14 ⟨#[]⟩ < q1 := by omega
            simp only [hlen, n1, n2, ↓reduceIte]
            exact k5
          · simp only [hlen, ↓reduceIte]
            exact k5
      · have ef : fsV x = (false, false) := by unfold fsV; rw [if_neg hx]
        rw [ef]
        exact Ev.step (fun k => by simp only [laws_FnDuelWords.j4, Bool.false_eq_true, ↓reduceIte]) k5
    refine Ev.bind hd (Ev.bind w2 (Ev.bind w1 ?_))
    simp only [bne_self_eq_false, ↓reduceIte]
    have k1 : Ev (fun k => laws_FnDuelWords.j1 k s o so (dwV o so).1 (dwV o so).2 false) true := by
      refine Ev.step (f := fun k => laws_FnDuelWords.j1 (k + 1) s o so (dwV o so).1 (dwV o so).2 false) (fun k => rfl) ?_
      simp only [laws_FnDuelWords.j1, Bool.false_eq_true, ↓reduceIte]
      refine Ev.bind hx (Ev.bind f2 (Ev.bind f1 ?_))
      simp only [bne_self_eq_false, Bool.false_eq_true, ↓reduceIte]
      refine Ev.step (f := fun k => laws_FnDuelWords.j2 (k + 1) s o so (dwV o so).1 (dwV o so).2 x (fsV x).1 (fsV x).2 false) (fun k => rfl) ?_
      simp only [laws_FnDuelWords.j2, hn, Option.bind_some, Bool.false_eq_true, ↓reduceIte]
      refine Ev.bind g2 (Ev.bind g1 ?_)
      simp only [bne_self_eq_false, Bool.false_eq_true, ↓reduceIte]
      refine Ev.bind (ev_rInts ml (by omega)) ?_
      simp only [Bool.not_true]
      refine Ev.step (f := fun k => laws_FnDuelWords.j3 (k + 1) o so (dwV o so).1 (dwV o so).2 x (fsV x).1 (fsV x).2 n m1 q3 false) (fun k => rfl) ?_
      simp only [laws_FnDuelWords.j3, Bool.false_eq_true, ↓reduceIte]
      refine Ev.bind g4 (Ev.bind g3 ?_)
      simp only [bne_self_eq_false, Bool.false_eq_true, ↓reduceIte]
      refine Ev.bind (ev_rInts ql (by omega)) ?_
      simp only [↓reduceIte]
      cases q3 with
      | false =>
        simp only [Bool.false_eq_true, ↓reduceIte]
        exact k4
      | true =>
        obtain ⟨⟨y, hy, ey⟩, _⟩ := mf rfl
        have b2 := (qf rfl).2 y hy
        rw [← ey] at b2
        have n1 : decide (q1 > m1) = false := decide_eq_false (by omega)
        simp only [n1, ↓reduceIte]
        exact k4
    refine Ev.step (f := fun k => laws_FnDuelWords.j0 (k + 1) s o so (dwV o so).1 (dwV o so).2 false) (fun k => rfl) ?_
    simp only [laws_FnDuelWords.j0, Bool.false_eq_true, ↓reduceIte]
    refine Ev.bind c2 (Ev.bind c1 ?_)
    simp only [bne_self_eq_false, Bool.false_eq_true, ↓reduceIte]
    by_cases hdu : duelB o so = true
    · have e1 : nwV o so = (nw o 14 so, true) := by unfold nwV; rw [if_pos hdu]
      have e2 : (dwV o so).2 = true := by unfold dwV; rw [if_pos hdu]
      have p : 1 ≤ nw o 14 so := nw_pos o 13 so
      have n1 : decide (nw o 14 so < 1) = false := decide_eq_false (by omega)
      rw [e2] at k1 ⊢
      simp only [e1, n1, bne_self_eq_false, Bool.false_eq_true, ↓reduceIte]
      exact k1
    · have e1 : nwV o so = (0, false) := by unfold nwV; rw [if_neg hdu]
      have e2 : (dwV o so).2 = false := by unfold dwV; rw [if_neg hdu]
      rw [e2] at k1 ⊢
      simp only [e1, bne_self_eq_false, Bool.false_eq_true, ↓reduceIte]
      exact k1

end Go.Proofs.Ytnoapomobflknaa.Pure
