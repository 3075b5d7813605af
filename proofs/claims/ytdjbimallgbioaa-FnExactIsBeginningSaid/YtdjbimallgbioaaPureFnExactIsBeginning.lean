/- IsBeginning: the program and the reference tell the same of every number and every text (of at most 1048576 bytes: of longer ones the law says nothing). -/
import Derived.Test.YtdjbimallgbioaaXa1
import Derived.Test.YtdjbimallgbioaaPk
set_option linter.unusedVariables false
set_option linter.unusedSimpArgs false
namespace Go.Proofs.Ytdjbimallgbioaa.Pure
open Go.RowKit Go.Proofs.Ytdjbimallgbioaa.Xa Go.Proofs.YtdjbimallgbioaaW.PrintWords Go.Proofs.YtdjbimallgbioaaW.PrintLast Go.Proofs.Ytdjbimallgbioaa.Pk

/-! ### what the reference and the program tell of beginnings -/
def begR : Option (Int × Int) → Int
  | some (p, q) => p - q
  | none => -1
theorem ev_l1In (a b c : Int) : spec_l1In.f a b c = some (decide (b ≤ a) && decide (a ≤ c)) := by
  unfold spec_l1In.f
  by_cases h : b ≤ a
  · rw [if_pos h, decide_eq_true h, Bool.true_and]
  · rw [if_neg h, decide_eq_false h, Bool.false_and]
theorem ev_l11In_l0 (n : Int) (s : ByteArray) (hn0 : 1 ≤ n) (hn6 : n ≤ 6) (hs : s.size ≤ 1048576) (d : Nat) : ∀ (j : Nat) (p q : Int), j + d = s.size → 0 ≤ q → q ≤ p → p ≤ n →
    Ev (fun k => spec_l11In.l0 k n s (p - q) p (j : Int)) (begR (beg n ((bs s).drop j) p q)) := by
  induction d with
  | zero =>
    intro j p q hj h0 h1 h2
    rw [bs_end s j (by omega)]
    have c : ¬ (j : Int) < (s.size : Int) := by omega
    exact Ev.step (fun k => by simp only [spec_l11In.l0, c, ↓reduceIte] <;> rfl) (Ev.now _)
  | succ d ih =>
    intro j p q hj h0 h1 h2
    rw [bs_drop s j (by omega)]
    have c : (j : Int) < (s.size : Int) := by omega
    have c0 : 0 ≤ (j : Int) := by omega
    have e1 : wrap64 ((j : Int) + 1) = ((j + 1 : Nat) : Int) := wj (by omega)
    simp only [beg]
    by_cases hI : bt s (j : Int) = 73
    · simp only [hI, ↓reduceIte]
      by_cases hp : p < n
      · simp only [hp, ↓reduceIte]
        have ih' := ih (j + 1) (p + 1) q (by omega) h0 (by omega) (by omega)
        rw [show p + 1 - q = p - q + 1 by omega] at ih'
        refine Ev.step (fun k => by simp only [spec_l11In.l0, c, c0, hI, hp, decide_true, ↓reduceIte] <;> rfl) (Ev.step (f := fun k => spec_l11In.l0 k n s (p - q + 1) (p + 1) ((j + 1 : Nat) : Int)) (fun k => ?_) ih')
        simp only [spec_l11In.j1, ↓reduceIte]
        rw [wr (i := p - q + 1) (by omega) (by omega), wr (i := p + 1) (by omega) (by omega), e1]
      · simp only [hp, ↓reduceIte]
        refine Ev.step (fun k => by simp only [spec_l11In.l0, c, c0, hI, hp, decide_false, ↓reduceIte] <;> rfl) (Ev.step (f := fun _ => some (-1)) (fun k => ?_) (Ev.now _))
        simp only [spec_l11In.j1, c, c0, hI, ↓reduceIte]
        rfl
    · simp only [hI, ↓reduceIte]
      by_cases hO : bt s (j : Int) = 79
      · simp only [hO, ↓reduceIte]
        by_cases hq : q < p
        · simp only [hq, ↓reduceIte]
          have ih' := ih (j + 1) p (q + 1) (by omega) (by omega) (by omega) (by omega)
          rw [show p - (q + 1) = p - q - 1 by omega] at ih'
          have g : p - q > 0 := by omega
          refine Ev.step (fun k => by simp only [spec_l11In.l0, c, c0, hI, ↓reduceIte] <;> rfl) (Ev.step (f := fun k => spec_l11In.l0 k n s (p - q - 1) p ((j + 1 : Nat) : Int)) (fun k => ?_) ih')
          simp only [spec_l11In.j1, c, c0, hO, g, Bool.false_eq_true, ↓reduceIte]
          rw [wr (i := p - q - 1) (by omega) (by omega), e1]
        · simp only [hq, ↓reduceIte]
          have g : ¬ p - q > 0 := by omega
          refine Ev.step (fun k => by simp only [spec_l11In.l0, c, c0, hI, ↓reduceIte] <;> rfl) (Ev.step (f := fun _ => some (-1)) (fun k => ?_) (Ev.now _))
          simp only [spec_l11In.j1, c, c0, hO, g, Bool.false_eq_true, ↓reduceIte]
      · simp only [hO, ↓reduceIte]
        refine Ev.step (fun k => by simp only [spec_l11In.l0, c, c0, hI, ↓reduceIte] <;> rfl) (Ev.step (f := fun _ => some (-1)) (fun k => ?_) (Ev.now _))
        simp only [spec_l11In.j1, c, c0, hO, Bool.false_eq_true, ↓reduceIte]
theorem ev_isBeginning_l0 (n : Int) (s : ByteArray) (hn0 : 1 ≤ n) (hn6 : n ≤ 6) (hs : s.size ≤ 1048576) (d : Nat) : ∀ (j : Nat) (p q : Int), j + d = s.size → 0 ≤ q → q ≤ p → p ≤ n →
    Ev (fun k => impl_isBeginning.l0 k n s p q (s.size : Int) (j : Int)) (beg n ((bs s).drop j) p q).isSome := by
  induction d with
  | zero =>
    intro j p q hj h0 h1 h2
    rw [bs_end s j (by omega)]
    have c : ¬ (j : Int) < (s.size : Int) := by omega
    exact Ev.step (fun k => by simp only [impl_isBeginning.l0, c, ↓reduceIte] <;> rfl) (Ev.now _)
  | succ d ih =>
    intro j p q hj h0 h1 h2
    rw [bs_drop s j (by omega)]
    have c : (j : Int) < (s.size : Int) := by omega
    have c0 : 0 ≤ (j : Int) := by omega
    have e1 : wrap64 ((j : Int) + 1) = ((j + 1 : Nat) : Int) := wj (by omega)
    have e2 : wrap64 (p + 1) = p + 1 := wr (by omega) (by omega)
    have e3 : wrap64 (q + 1) = q + 1 := wr (by omega) (by omega)
    simp only [beg]
    by_cases hI : bt s (j : Int) = 73
    · simp only [hI, ↓reduceIte]
      have g1 : ¬ q > p + 1 := by omega
      by_cases hp : p < n
      · have g2 : ¬ p + 1 > n := by omega
        simp only [hp, ↓reduceIte]
        exact Ev.step (fun k => by simp only [impl_isBeginning.l0, c, c0, hI, e1, e2, g1, g2, ↓reduceIte]) (ih (j + 1) (p + 1) q (by omega) h0 (by omega) (by omega))
      · have g2 : p + 1 > n := by omega
        simp only [hp, ↓reduceIte]
        exact Ev.step (fun k => by simp only [impl_isBeginning.l0, c, c0, hI, e2, g1, g2, ↓reduceIte] <;> rfl) (Ev.now _)
    · simp only [hI, ↓reduceIte]
      by_cases hO : bt s (j : Int) = 79
      · simp only [hO, ↓reduceIte]
        have g2 : ¬ p > n := by omega
        by_cases hq : q < p
        · have g1 : ¬ q + 1 > p := by omega
          simp only [hq, ↓reduceIte]
          exact Ev.step (fun k => by simp only [impl_isBeginning.l0, c, c0, hI, hO, e1, e3, g1, g2, ↓reduceIte] <;> rfl) (ih (j + 1) p (q + 1) (by omega) (by omega) (by omega) (by omega))
        · have g1 : q + 1 > p := by omega
          simp only [hq, ↓reduceIte]
          exact Ev.step (fun k => by simp only [impl_isBeginning.l0, c, c0, hI, hO, e3, g1, g2, ↓reduceIte] <;> rfl) (Ev.now _)
      · simp only [hO, ↓reduceIte]
        exact Ev.step (fun k => by simp only [impl_isBeginning.l0, c, c0, hI, hO, ↓reduceIte] <;> rfl) (Ev.now _)
/-- Is a text a beginning for n numbers? -/
def isBeg (n : Int) (s : ByteArray) : Bool := decide (1 ≤ n) && decide (n ≤ 6) && decide ((s.size : Int) ≤ 2 * n) && (beg n (bs s) 0 0).isSome
theorem begR_some (n : Int) (l : List Int) (h : 0 ≤ n) : decide (begR (beg n l 0 0) ≥ 0) = (beg n l 0 0).isSome := by
  cases e : beg n l 0 0 with
  | none => rfl
  | some r =>
    obtain ⟨p, q⟩ := r
    have := beg_bounds n l 0 0 p q (by omega) h e
    show decide (p - q ≥ 0) = true
    exact decide_eq_true (by omega)
theorem ev_l11In (n : Int) (s : ByteArray) (hn0 : 1 ≤ n) (hn6 : n ≤ 6) (hs : s.size ≤ 1048576) : Ev (fun k => spec_l11In.f k n s) (if (s.size : Int) ≤ 2 * n then begR (beg n (bs s) 0 0) else -1) := by
  have e : wrap64 (2 * n) = 2 * n := wr (by omega) (by omega)
  by_cases h : (s.size : Int) ≤ 2 * n
  · have h' : ¬ (s.size : Int) > 2 * n := by omega
    have := ev_l11In_l0 n s hn0 hn6 hs s.size 0 0 0 (by omega) (by omega) (by omega) (by omega)
    simp only [List.drop_zero] at this
    simp only [spec_l11In.f, e, h, h', ↓reduceIte]
    exact this
  · have h' : (s.size : Int) > 2 * n := by omega
    simp only [spec_l11In.f, e, h, h', ↓reduceIte]
    exact Ev.now _
theorem ev_specIsBeginning (n : Int) (s : ByteArray) (hs : s.size ≤ 1048576) : Ev (fun k => spec_IsBeginning.f k n s) (isBeg n s) := by
  unfold spec_IsBeginning.f isBeg
  simp only [ev_l1In, Option.bind_some]
  by_cases h1 : 1 ≤ n
  · by_cases h6 : n ≤ 6
    · simp only [h1, h6, decide_true, Bool.and_true, ↓reduceIte, Bool.true_and]
      refine Ev.bind (ev_l11In n s h1 h6 hs) ?_
      by_cases hl : (s.size : Int) ≤ 2 * n
      · simp only [hl, ↓reduceIte, decide_true, Bool.true_and]
        rw [begR_some n _ (by omega)]
        exact Ev.now _
      · simp only [hl, ↓reduceIte, decide_false, Bool.false_and]
        exact Ev.now _
    · simp only [h6, decide_false, Bool.and_false, Bool.false_and, Bool.false_eq_true, ↓reduceIte]
      exact Ev.now _
  · simp only [h1, decide_false, Bool.false_and, Bool.false_eq_true, ↓reduceIte]
    exact Ev.now _
theorem ev_isBeginning (n : Int) (s : ByteArray) (hs : s.size ≤ 1048576) : Ev (fun k => impl_isBeginning.f k n s) (isBeg n s) := by
  unfold isBeg
  by_cases h1 : 1 ≤ n
  · by_cases h6 : n ≤ 6
    · have e : wrap64 (2 * n) = 2 * n := wr (by omega) (by omega)
      have g1 : ¬ n < 1 := by omega
      have g6 : ¬ n > 6 := by omega
      simp only [impl_isBeginning.f, g1, g6, e, h1, h6, decide_true, Bool.true_and, ↓reduceIte]
      by_cases hl : (s.size : Int) ≤ 2 * n
      · have hl' : ¬ (s.size : Int) > 2 * n := by omega
        simp only [hl, hl', decide_true, decide_false, Bool.true_and]
        have := ev_isBeginning_l0 n s h1 h6 hs s.size 0 0 0 (by omega) (by omega) (by omega) (by omega)
        simp only [List.drop_zero] at this
        exact Ev.step (fun k => by simp only [impl_isBeginning.j0, Bool.false_eq_true, ↓reduceIte] <;> rfl) this
      · have hl' : (s.size : Int) > 2 * n := by omega
        simp only [hl, hl', decide_true, decide_false, Bool.false_and]
        exact Ev.step (fun k => by simp only [impl_isBeginning.j0, ↓reduceIte] <;> rfl) (Ev.now _)
    · have g1 : ¬ n < 1 := by omega
      have g6 : n > 6 := by omega
      simp only [impl_isBeginning.f, g1, g6, h6, decide_false, Bool.and_false, Bool.false_and, ↓reduceIte]
      exact Ev.step (fun k => by simp only [impl_isBeginning.j0, ↓reduceIte] <;> rfl) (Ev.now _)
  · have g1 : n < 1 := by omega
    simp only [impl_isBeginning.f, g1, h1, decide_false, Bool.false_and, ↓reduceIte]
    exact Ev.step (fun k => by simp only [impl_isBeginning.j0, ↓reduceIte] <;> rfl) (Ev.now _)
theorem FnExactIsBeginning : laws_FnExactIsBeginning.Pure := by
  intro n s _ hs
  by_cases hl : (s.size : Int) > 1048576
  · exact ⟨0, by simp only [laws_FnExactIsBeginning.f, hl, ↓reduceIte]⟩
  · refine Ev.rounds (g := fun k => laws_FnExactIsBeginning.f k n s) ?_
    simp only [laws_FnExactIsBeginning.f, hl, ↓reduceIte]
    refine Ev.bind (ev_specIsBeginning n s (by omega)) ?_
    simp only [impl_IsBeginning.f]
    refine Ev.bind (Ev.bind (ev_isBeginning n s (by omega)) (Ev.now _)) ?_
    simp only [bne_self_eq_false, Bool.false_eq_true, ↓reduceIte]
    exact Ev.now _

end Go.Proofs.Ytdjbimallgbioaa.Pure
