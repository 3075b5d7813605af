/- LeastDuel: the program and the reference tell the same of every number; the result shares no memory with another call's. -/
import Derived.Test.YtgilgogjffnodaaXd9
import Derived.Test.YtgilgogjffnodaaXdHduel
import Derived.Test.YtgilgogjffnodaaXdHspecval
import Derived.Test.YtgilgogjffnodaaXdHbduel
import Derived.Test.YtgilgogjffnodaaXdHfar
import Derived.Test.YtgilgogjffnodaaXd7
import Derived.Test.YtgilgogjffnodaaXd6
import Derived.Test.YtgilgogjffnodaaXd4
import Derived.Test.YtgilgogjffnodaaXd5
import Derived.Test.YtgilgogjffnodaaXdHdelete
import Derived.Test.YtgilgogjffnodaaXd1
import Derived.Test.YtgilgogjffnodaaXd8
import Derived.Test.YtgilgogjffnodaaXd2
import Derived.Test.YtgilgogjffnodaaXd3
import Derived.Test.YtgilgogjffnodaaPk
set_option linter.unusedVariables false
set_option linter.unusedSimpArgs false
namespace Go.Proofs.Ytgilgogjffnodaa.Pure
open Go.RowKit Go.Proofs.Ytgilgogjffnodaa.Xd Go.Proofs.YtgilgogjffnodaaW.PrintWords Go.Proofs.YtgilgogjffnodaaW.PrintLast Go.Proofs.Ytgilgogjffnodaa.Pk

theorem ev_Index_l0 (l : List Int) (x : Int) (hl : l.length < 9223372036854775807) (d : Nat) : ∀ j : Nat, j + d = l.length → ∃ r : Int, Ev (fun k => slices_Index_int_int.l0 k l x (l.length : Int) (j : Int)) r ∧ decide (r ≥ 0) = (l.drop j).contains x := by
  induction d with
  | zero =>
    intro j hj
    have c : ¬ (j : Int) < (l.length : Int) := by omega
    rw [List.drop_of_length_le (by omega)]
    exact ⟨-1, Ev.step (fun k => by simp only [slices_Index_int_int.l0, c, ↓reduceIte] <;> rfl) (Ev.now _), rfl⟩
  | succ d ih =>
    intro j hj
    have c : (j : Int) < (l.length : Int) := by omega
    have c0 : 0 ≤ (j : Int) := by omega
    have e1 : wrap64 ((j : Int) + 1) = ((j + 1 : Nat) : Int) := wj (by omega)
    rw [rd_drop l j (by omega), List.contains_cons]
    by_cases h : x = rd l (j : Int)
    · have : (x == rd l (j : Int)) = true := beq_iff_eq.2 h
      rw [this, Bool.true_or]
      exact ⟨j, Ev.step (fun k => by simp only [slices_Index_int_int.l0, c, c0, ↓reduceIte]; rw [if_pos h]) (Ev.now _), by simp⟩
    · have : (x == rd l (j : Int)) = false := beq_eq_false_iff_ne.2 h
      rw [this, Bool.false_or]
      obtain ⟨r, hr, hd⟩ := ih (j + 1) (by omega)
      exact ⟨r, Ev.step (fun k => by simp only [slices_Index_int_int.l0, c, c0, h, e1, ↓reduceIte]) hr, hd⟩
theorem ev_Contains (l : List Int) (x : Int) (hl : l.length < 9223372036854775807) : Ev (fun k => slices_Contains_int_int.f k l x) (l.contains x) := by
  obtain ⟨r, hr, hd⟩ := ev_Index_l0 l x hl l.length 0 (by omega)
  rw [List.drop_zero] at hd
  unfold slices_Contains_int_int.f slices_Index_int_int.f
  refine Ev.bind hr ?_
  rw [hd]
  exact Ev.now _
theorem ev_isOrder_l0 (l : List Int) (hl : l.length ≤ 7) (d : Nat) : ∀ j : Nat, j + d = l.length → Ev (fun k => impl_isOrder.l0 k l l (l.length : Int) (j : Int)) (chk l.length (l.take j) (l.drop j)) := by
  induction d with
  | zero =>
    intro j hj
    have c : ¬ (j : Int) < (l.length : Int) := by omega
    rw [List.drop_of_length_le (by omega)]
    exact Ev.step (fun k => by simp only [impl_isOrder.l0, c, ↓reduceIte] <;> rfl) (Ev.now _)
  | succ d ih =>
    intro j hj
    have c : (j : Int) < (l.length : Int) := by omega
    have c0 : 0 ≤ (j : Int) := by omega
    have c1 : (j : Int) ≤ (l.length : Int) := by omega
    have e1 : wrap64 ((j : Int) + 1) = ((j + 1 : Nat) : Int) := wj (by omega)
    rw [rd_drop l j (by omega), chk, ← take_succ l j (by omega)]
    by_cases h1 : 1 ≤ rd l (j : Int)
    · have g1 : ¬ rd l (j : Int) < 1 := by omega
      by_cases h2 : rd l (j : Int) ≤ (l.length : Int)
      · have g2 : ¬ rd l (j : Int) > (l.length : Int) := by omega
        simp only [h1, h2, decide_true, Bool.true_and]
        refine Ev.step (f := fun k => (slices_Contains_int_int.f k (l.take j) (rd l (j : Int))).bind fun t => if t = true then some false else impl_isOrder.l0 k l l (l.length : Int) ((j + 1 : Nat) : Int)) (fun k => by simp only [impl_isOrder.l0, c, c0, c1, g1, g2, e1, Int.toNat_natCast, ↓reduceIte]) ?_
        refine Ev.bind (ev_Contains (l.take j) _ (by rw [List.length_take]; omega)) ?_
        cases hc : (l.take j).contains (rd l (j : Int)) with
        | true =>
          simp only [↓reduceIte, Bool.not_true, Bool.false_and]
          exact Ev.now _
        | false =>
          simp only [Bool.false_eq_true, ↓reduceIte, Bool.not_false, Bool.true_and]
          exact ih (j + 1) (by omega)
      · have g2 : rd l (j : Int) > (l.length : Int) := by omega
        simp only [h2, decide_false, Bool.and_false, Bool.false_and]
        exact Ev.step (fun k => by simp only [impl_isOrder.l0, c, c0, g1, g2, ↓reduceIte] <;> rfl) (Ev.now _)
    · have g1 : rd l (j : Int) < 1 := by omega
      simp only [h1, decide_false, Bool.false_and]
      exact Ev.step (fun k => by simp only [impl_isOrder.l0, c, c0, g1, ↓reduceIte] <;> rfl) (Ev.now _)
theorem ev_isOrder (l : List Int) : Ev (fun k => impl_isOrder.f k l) (ordB l) := by
  unfold impl_isOrder.f ordB
  by_cases h1 : 1 ≤ l.length
  · have g1 : ¬ (l.length : Int) < 1 := by omega
    by_cases h7 : l.length ≤ 7
    · have g7 : ¬ (l.length : Int) > 7 := by omega
      have := ev_isOrder_l0 l h7 l.length 0 (by omega)
      simp only [h1, h7, g1, g7, decide_true, decide_false, Bool.true_and, ↓reduceIte]
      refine Ev.step (fun k => by simp only [impl_isOrder.j0, Bool.false_eq_true, ↓reduceIte] <;> rfl) ?_
      rw [List.take_zero, List.drop_zero] at this
      exact this
    · have g7 : (l.length : Int) > 7 := by omega
      simp only [h7, g1, g7, decide_true, decide_false, Bool.and_false, Bool.false_and, ↓reduceIte]
      exact Ev.step (fun k => by simp only [impl_isOrder.j0, ↓reduceIte] <;> rfl) (Ev.now _)
  · have g1 : (l.length : Int) < 1 := by omega
    simp only [h1, g1, decide_false, Bool.false_and, ↓reduceIte]
    exact Ev.step (fun k => by simp only [impl_isOrder.j0, ↓reduceIte] <;> rfl) (Ev.now _)
/-! ### what the reference and the program tell of beginnings -/
def begR : Option (Int × Int) → Int
  | some (p, q) => p - q
  | none => -1
theorem ev_l1In (a b c : Int) : spec_l1In.f a b c = some (decide (b ≤ a) && decide (a ≤ c)) := by
  unfold spec_l1In.f
  by_cases h : b ≤ a
  · rw [if_pos h, decide_eq_true h, Bool.true_and]
  · rw [if_neg h, decide_eq_false h, Bool.false_and]
theorem ev_l11In_l0 (n : Int) (s : ByteArray) (hn0 : 1 ≤ n) (hn6 : n ≤ 6) (hs : s.size ≤ 1048576) (d : Nat) : ∀ (j : Nat) (p q : Int), j + d = s.size → 0 ≤ q → q ≤ p → p ≤ n →
    Ev (fun k => spec_l11In.l0 k n s (p - q) p (j : Int)) (begR (beg n ((bs s).drop j) p q)) := by
  induction d with
  | zero =>
    intro j p q hj h0 h1 h2
    rw [bs_end s j (by omega)]
    have c : ¬ (j : Int) < (s.size : Int) := by omega
    exact Ev.step (fun k => by simp only [spec_l11In.l0, c, ↓reduceIte] <;> rfl) (Ev.now _)
  | succ d ih =>
    intro j p q hj h0 h1 h2
    rw [bs_drop s j (by omega)]
    have c : (j : Int) < (s.size : Int) := by omega
    have c0 : 0 ≤ (j : Int) := by omega
    have e1 : wrap64 ((j : Int) + 1) = ((j + 1 : Nat) : Int) := wj (by omega)
    simp only [beg]
    by_cases hI : bt s (j : Int) = 73
    · simp only [hI, ↓reduceIte]
      by_cases hp : p < n
      · simp only [hp, ↓reduceIte]
        have ih' := ih (j + 1) (p + 1) q (by omega) h0 (by omega) (by omega)
        rw [show p + 1 - q = p - q + 1 by omega] at ih'
        refine Ev.step (fun k => by simp only [spec_l11In.l0, c, c0, hI, hp, decide_true, ↓reduceIte] <;> rfl) (Ev.step (f := fun k => spec_l11In.l0 k n s (p - q + 1) (p + 1) ((j + 1 : Nat) : Int)) (fun k => ?_) ih')
        simp only [spec_l11In.j1, ↓reduceIte]
        rw [wr (i := p - q + 1) (by omega) (by omega), wr (i := p + 1) (by omega) (by omega), e1]
      · simp only [hp, ↓reduceIte]
        refine Ev.step (fun k => by simp only [spec_l11In.l0, c, c0, hI, hp, decide_false, ↓reduceIte] <;> rfl) (Ev.step (f := fun _ => some (-1)) (fun k => ?_) (Ev.now _))
        simp only [spec_l11In.j1, c, c0, hI, ↓reduceIte]
        rfl
    · simp only [hI, ↓reduceIte]
      by_cases hO : bt s (j : Int) = 79
      · simp only [hO, ↓reduceIte]
        by_cases hq : q < p
        · simp only [hq, ↓reduceIte]
          have ih' := ih (j + 1) p (q + 1) (by omega) (by omega) (by omega) (by omega)
          rw [show p - (q + 1) = p - q - 1 by omega] at ih'
          have g : p - q > 0 := by omega
          refine Ev.step (fun k => by simp only [spec_l11In.l0, c, c0, hI, ↓reduceIte] <;> rfl) (Ev.step (f := fun k => spec_l11In.l0 k n s (p - q - 1) p ((j + 1 : Nat) : Int)) (fun k => ?_) ih')
          simp only [spec_l11In.j1, c, c0, hO, g, Bool.false_eq_true, ↓reduceIte]
          rw [wr (i := p - q - 1) (by omega) (by omega), e1]
        · simp only [hq, ↓reduceIte]
          have g : ¬ p - q > 0 := by omega
          refine Ev.step (fun k => by simp only [spec_l11In.l0, c, c0, hI, ↓reduceIte] <;> rfl) (Ev.step (f := fun _ => some (-1)) (fun k => ?_) (Ev.now _))
          simp only [spec_l11In.j1, c, c0, hO, g, Bool.false_eq_true, ↓reduceIte]
      · simp only [hO, ↓reduceIte]
        refine Ev.step (fun k => by simp only [spec_l11In.l0, c, c0, hI, ↓reduceIte] <;> rfl) (Ev.step (f := fun _ => some (-1)) (fun k => ?_) (Ev.now _))
        simp only [spec_l11In.j1, c, c0, hO, Bool.false_eq_true, ↓reduceIte]
theorem ev_isBeginning_l0 (n : Int) (s : ByteArray) (hn0 : 1 ≤ n) (hn6 : n ≤ 6) (hs : s.size ≤ 1048576) (d : Nat) : ∀ (j : Nat) (p q : Int), j + d = s.size → 0 ≤ q → q ≤ p → p ≤ n →
    Ev (fun k => impl_isBeginning.l0 k n s p q (s.size : Int) (j : Int)) (beg n ((bs s).drop j) p q).isSome := by
  induction d with
  | zero =>
    intro j p q hj h0 h1 h2
    rw [bs_end s j (by omega)]
    have c : ¬ (j : Int) < (s.size : Int) := by omega
    exact Ev.step (fun k => by simp only [impl_isBeginning.l0, c, ↓reduceIte] <;> rfl) (Ev.now _)
  | succ d ih =>
    intro j p q hj h0 h1 h2
    rw [bs_drop s j (by omega)]
    have c : (j : Int) < (s.size : Int) := by omega
    have c0 : 0 ≤ (j : Int) := by omega
    have e1 : wrap64 ((j : Int) + 1) = ((j + 1 : Nat) : Int) := wj (by omega)
    have e2 : wrap64 (p + 1) = p + 1 := wr (by omega) (by omega)
    have e3 : wrap64 (q + 1) = q + 1 := wr (by omega) (by omega)
    simp only [beg]
    by_cases hI : bt s (j : Int) = 73
    · simp only [hI, ↓reduceIte]
      have g1 : ¬ q > p + 1 := by omega
      by_cases hp : p < n
      · have g2 : ¬ p + 1 > n := by omega
        simp only [hp, ↓reduceIte]
        exact Ev.step (fun k => by simp only [impl_isBeginning.l0, c, c0, hI, e1, e2, g1, g2, ↓reduceIte]) (ih (j + 1) (p + 1) q (by omega) h0 (by omega) (by omega))
      · have g2 : p + 1 > n := by omega
        simp only [hp, ↓reduceIte]
        exact Ev.step (fun k => by simp only [impl_isBeginning.l0, c, c0, hI, e2, g1, g2, ↓reduceIte] <;> rfl) (Ev.now _)
    · simp only [hI, ↓reduceIte]
      by_cases hO : bt s (j : Int) = 79
      · simp only [hO, ↓reduceIte]
        have g2 : ¬ p > n := by omega
        by_cases hq : q < p
        · have g1 : ¬ q + 1 > p := by omega
          simp only [hq, ↓reduceIte]
          exact Ev.step (fun k => by simp only [impl_isBeginning.l0, c, c0, hI, hO, e1, e3, g1, g2, ↓reduceIte] <;> rfl) (ih (j + 1) p (q + 1) (by omega) (by omega) (by omega) (by omega))
        · have g1 : q + 1 > p := by omega
          simp only [hq, ↓reduceIte]
          exact Ev.step (fun k => by simp only [impl_isBeginning.l0, c, c0, hI, hO, e3, g1, g2, ↓reduceIte] <;> rfl) (Ev.now _)
      · simp only [hO, ↓reduceIte]
        exact Ev.step (fun k => by simp only [impl_isBeginning.l0, c, c0, hI, hO, ↓reduceIte] <;> rfl) (Ev.now _)
/-- Is a text a beginning for n numbers? -/
def isBeg (n : Int) (s : ByteArray) : Bool := decide (1 ≤ n) && decide (n ≤ 6) && decide ((s.size : Int) ≤ 2 * n) && (beg n (bs s) 0 0).isSome
theorem begR_some (n : Int) (l : List Int) (h : 0 ≤ n) : decide (begR (beg n l 0 0) ≥ 0) = (beg n l 0 0).isSome := by
  cases e : beg n l 0 0 with
  | none => rfl
  | some r =>
    obtain ⟨p, q⟩ := r
    have := beg_bounds n l 0 0 p q (by omega) h e
    show decide (p - q ≥ 0) = true
    exact decide_eq_true (by omega)
theorem ev_l11In (n : Int) (s : ByteArray) (hn0 : 1 ≤ n) (hn6 : n ≤ 6) (hs : s.size ≤ 1048576) : Ev (fun k => spec_l11In.f k n s) (if (s.size : Int) ≤ 2 * n then begR (beg n (bs s) 0 0) else -1) := by
  have e : wrap64 (2 * n) = 2 * n := wr (by omega) (by omega)
  by_cases h : (s.size : Int) ≤ 2 * n
  · have h' : ¬ (s.size : Int) > 2 * n := by omega
    have := ev_l11In_l0 n s hn0 hn6 hs s.size 0 0 0 (by omega) (by omega) (by omega) (by omega)
    simp only [List.drop_zero] at this
    simp only [spec_l11In.f, e, h, h', ↓reduceIte]
    exact this
  · have h' : (s.size : Int) > 2 * n := by omega
    simp only [spec_l11In.f, e, h, h', ↓reduceIte]
    exact Ev.now _
theorem ev_isBeginning (n : Int) (s : ByteArray) (hs : s.size ≤ 1048576) : Ev (fun k => impl_isBeginning.f k n s) (isBeg n s) := by
  unfold isBeg
  by_cases h1 : 1 ≤ n
  · by_cases h6 : n ≤ 6
    · have e : wrap64 (2 * n) = 2 * n := wr (by omega) (by omega)
      have g1 : ¬ n < 1 := by omega
      have g6 : ¬ n > 6 := by omega
      simp only [impl_isBeginning.f, g1, g6, e, h1, h6, decide_true, Bool.true_and, ↓reduceIte]
      by_cases hl : (s.size : Int) ≤ 2 * n
      · have hl' : ¬ (s.size : Int) > 2 * n := by omega
        simp only [hl, hl', decide_true, decide_false, Bool.true_and]
        have := ev_isBeginning_l0 n s h1 h6 hs s.size 0 0 0 (by omega) (by omega) (by omega) (by omega)
        simp only [List.drop_zero] at this
        exact Ev.step (fun k => by simp only [impl_isBeginning.j0, Bool.false_eq_true, ↓reduceIte] <;> rfl) this
      · have hl' : (s.size : Int) > 2 * n := by omega
        simp only [hl, hl', decide_true, decide_false, Bool.false_and]
        exact Ev.step (fun k => by simp only [impl_isBeginning.j0, ↓reduceIte] <;> rfl) (Ev.now _)
    · have g1 : ¬ n < 1 := by omega
      have g6 : n > 6 := by omega
      simp only [impl_isBeginning.f, g1, g6, h6, decide_false, Bool.and_false, Bool.false_and, ↓reduceIte]
      exact Ev.step (fun k => by simp only [impl_isBeginning.j0, ↓reduceIte] <;> rfl) (Ev.now _)
  · have g1 : n < 1 := by omega
    simp only [impl_isBeginning.f, g1, h1, decide_false, Bool.false_and, ↓reduceIte]
    exact Ev.step (fun k => by simp only [impl_isBeginning.j0, ↓reduceIte] <;> rfl) (Ev.now _)
/-! ### an order and a beginning; the stack behind it -/
def duelB (l : List Int) (s : ByteArray) : Bool := ordB l && isBeg (l.length : Int) s
theorem duelB_facts {l : List Int} {s : ByteArray} (h : duelB l s = true) : ordB l = true ∧ 1 ≤ l.length ∧ l.length ≤ 6 ∧ (s.size : Int) ≤ 2 * (l.length : Int) ∧ ∃ p q, beg (l.length : Int) (bs s) 0 0 = some (p, q) := by
  unfold duelB isBeg at h
  simp only [Bool.and_eq_true, decide_eq_true_eq] at h
  obtain ⟨h0, ⟨⟨h1, h6⟩, hl⟩, hb⟩ := h
  obtain ⟨⟨p, q⟩, hp⟩ := Option.isSome_iff_exists.1 hb
  exact ⟨h0, by omega, by omega, hl, p, q, hp⟩
theorem ev_isDuel (l : List Int) (s : ByteArray) (hs : s.size ≤ 1048576) : Ev (fun k => impl_isDuel.f k l s) (duelB l s) := by
  unfold impl_isDuel.f duelB
  refine Ev.bind (ev_isOrder l) ?_
  cases ho : ordB l with
  | false =>
    simp only [Bool.false_eq_true, ↓reduceIte, Bool.false_and]
    exact Ev.now _
  | true =>
    simp only [↓reduceIte, Bool.true_and]
    exact Ev.bind (ev_isBeginning (l.length : Int) s hs) (Ev.now _)
theorem ev_stackAfter_l0 (l : List Int) (s : ByteArray) (hn : l.length ≤ 6) (hs : s.size ≤ 1048576) (d : Nat) : ∀ (j p : Nat) (q : Int) (st : List Int) (pd : Int), j + d = s.size → p ≤ l.length → (st.length : Int) = (p : Int) - q → 0 ≤ q → (beg (l.length : Int) ((bs s).drop j) p q).isSome = true →
    Ev (fun k => impl_stackAfter.l0 k (l.drop p) s st pd (s.size : Int) (j : Int)) (stk ((bs s).drop j) (l.drop p) st pd) := by
  induction d with
  | zero =>
    intro j p q st pd hj hp hst hq hb
    rw [bs_end s j (by omega)]
    have c : ¬ (j : Int) < (s.size : Int) := by omega
    exact Ev.step (f := fun _ => some (st, pd)) (fun k => by simp only [impl_stackAfter.l0, c, ↓reduceIte]) (Ev.now _)
  | succ d ih =>
    intro j p q st pd hj hp hst hq hb
    rw [bs_drop s j (by omega)] at hb ⊢
    have c : (j : Int) < (s.size : Int) := by omega
    have c0 : 0 ≤ (j : Int) := by omega
    have e1 := Aside0.mk (show wrap64 ((j : Int) + 1) = ((j + 1 : Nat) : Int) from wj (by omega))
    simp only [beg] at hb
    simp only [stk]
    by_cases hI : bt s (j : Int) = 73
    · simp only [hI, ↓reduceIte] at hb ⊢
      by_cases hpn : (p : Int) < (l.length : Int)
      · simp only [hpn, ↓reduceIte] at hb
        have g0 : 0 < ((l.drop p).length : Int) := by rw [List.length_drop]; omega
        have g1 : 1 ≤ ((l.drop p).length : Int) := by omega
        have lim : st.length < 17592186044416 := by omega
        have ih' := ih (j + 1) (p + 1) q (st ++ [rd (l.drop p) 0]) 0 (by omega) (by omega) (by rw [List.length_append, List.length_singleton]; omega) hq hb
        rw [← List.drop_drop] at ih'
        rw [show (l.drop p).headD 0 = rd (l.drop p) 0 by unfold rd; simp [List.headD_eq_head?_getD, List.head?_drop], show (l.drop p).tail = (l.drop p).drop 1 by simp]
        refine Ev.step (fun k => ?_) ih'
        simp only [impl_stackAfter.l0, c, c0, hI, g0, g1, lim, e1.out, ↓reduceIte]
      · simp only [hpn, ↓reduceIte] at hb
        cases hb
    · simp only [hI, ↓reduceIte] at hb ⊢
      by_cases hO : bt s (j : Int) = 79
      · simp only [hO, ↓reduceIte] at hb
        by_cases hqp : q < (p : Int)
        · simp only [hqp, ↓reduceIte] at hb
          rcases snoc_cases st with rfl | ⟨st, x, rfl⟩
          · simp only [List.length_nil, Int.natCast_zero] at hst
            omega
          · have hlen : (st ++ [x]).length = st.length + 1 := by simp
            rw [hlen] at hst
            have et := Aside0.mk (show wrap64 (((st ++ [x]).length : Int) - 1) = (st.length : Int) from by rw [hlen, wr (by omega) (by omega)]; omega)
            have etop : rd (st ++ [x]) (st.length : Int) = x := by rw [rd_nat]; simp
            have t0 : 0 ≤ (st.length : Int) := by omega
            have t1 : (st.length : Int) < ((st ++ [x]).length : Int) := by rw [hlen]; omega
            have t2 : (st.length : Int) ≤ ((st ++ [x]).length : Int) := by rw [hlen]; omega
            have ih' := ih (j + 1) p (q + 1) st x (by omega) hp (by omega) (by omega) hb
            rw [show (st ++ [x]).dropLast = st by simp, show (st ++ [x]).getLastD 0 = x by simp]
            refine Ev.step (fun k => ?_) ih'
            simp only [impl_stackAfter.l0, c, c0, hI, et.out, t0, t1, t2, etop, e1.out, Int.toNat_natCast, ↓reduceIte]
            rw [show (st ++ [x]).take st.length = st by simp]
        · simp only [hqp, ↓reduceIte] at hb
          cases hb
      · simp only [hO, ↓reduceIte] at hb
        cases hb
theorem ev_stackAfter (l : List Int) (s : ByteArray) (h : duelB l s = true) (hs : s.size ≤ 1048576) : Ev (fun k => impl_stackAfter.f k l s) (stk (bs s) l [] 0) := by
  obtain ⟨h0, h1, h6, hl, p, q, hb⟩ := duelB_facts h
  have := ev_stackAfter_l0 l s h6 hs s.size 0 0 0 [] 0 (by omega) (by omega) (by simp) (by omega) (by rw [List.drop_zero]; exact Option.isSome_iff_exists.2 ⟨_, hb⟩)
  simp only [List.drop_zero] at this
  exact this
theorem ev_l11Stack_l0 (l : List Int) (s : ByteArray) (hn : l.length ≤ 6) (hs : s.size ≤ 1048576) (d : Nat) : ∀ (j p : Nat) (q : Int) (st : List Int) (pd : Int), j + d = s.size → p ≤ l.length → (st.length : Int) = (p : Int) - q → 0 ≤ q → (beg (l.length : Int) ((bs s).drop j) p q).isSome = true →
    Ev (fun k => spec_l11Stack.l0 k l s st (p : Int) (j : Int)) (stk ((bs s).drop j) (l.drop p) st pd).1 := by
  induction d with
  | zero =>
    intro j p q st pd hj hp hst hq hb
    rw [bs_end s j (by omega)]
    have c : ¬ (j : Int) < (s.size : Int) := by omega
    have lim : ([] : List Int).length + st.length < 17592186044416 := by simp; omega
    refine Ev.step (f := fun _ => some st) (fun k => ?_) (Ev.now _)
    simp only [spec_l11Stack.l0, c, ↓reduceIte, spec_l1Own.f, Option.bind_some, lim, List.nil_append]
  | succ d ih =>
    intro j p q st pd hj hp hst hq hb
    rw [bs_drop s j (by omega)] at hb ⊢
    have c : (j : Int) < (s.size : Int) := by omega
    have c0 : 0 ≤ (j : Int) := by omega
    have e1 := Aside0.mk (show wrap64 ((j : Int) + 1) = ((j + 1 : Nat) : Int) from wj (by omega))
    have e2 := Aside0.mk (show wrap64 ((p : Int) + 1) = ((p + 1 : Nat) : Int) from wj (by omega))
    simp only [beg] at hb
    simp only [stk]
    by_cases hI : bt s (j : Int) = 73
    · simp only [hI, ↓reduceIte] at hb ⊢
      by_cases hpn : (p : Int) < (l.length : Int)
      · simp only [hpn, ↓reduceIte] at hb
        have c0p : 0 ≤ (p : Int) := by omega
        have lim : st.length < 17592186044416 := by omega
        have ih' := ih (j + 1) (p + 1) q (st ++ [rd l (p : Int)]) 0 (by omega) (by omega) (by rw [List.length_append, List.length_singleton]; omega) hq hb
        rw [show (l.drop p).headD 0 = rd l (p : Int) by rw [rd_drop l p (by omega)]; rfl, show (l.drop p).tail = l.drop (p + 1) by simp]
        refine Ev.step (fun k => ?_) ih'
        simp only [spec_l11Stack.l0, c, c0, hI, c0p, hpn, lim, e1.out, e2.out, ↓reduceIte]
      · simp only [hpn, ↓reduceIte] at hb
        cases hb
    · simp only [hI, ↓reduceIte] at hb ⊢
      by_cases hO : bt s (j : Int) = 79
      · simp only [hO, ↓reduceIte] at hb
        by_cases hqp : q < (p : Int)
        · simp only [hqp, ↓reduceIte] at hb
          rcases snoc_cases st with rfl | ⟨st, x, rfl⟩
          · simp only [List.length_nil, Int.natCast_zero] at hst
            omega
          · have hlen : (st ++ [x]).length = st.length + 1 := by simp
            rw [hlen] at hst
            have et := Aside0.mk (show wrap64 (((st ++ [x]).length : Int) - 1) = (st.length : Int) from by rw [hlen, wr (by omega) (by omega)]; omega)
            have t0 : 0 ≤ (st.length : Int) := by omega
            have t2 : (st.length : Int) ≤ ((st ++ [x]).length : Int) := by rw [hlen]; omega
            have ih' := ih (j + 1) p (q + 1) st x (by omega) hp (by omega) (by omega) hb
            rw [show (st ++ [x]).dropLast = st by simp, show (st ++ [x]).getLastD 0 = x by simp]
            refine Ev.step (fun k => ?_) ih'
            simp only [spec_l11Stack.l0, c, c0, hI, et.out, t0, t2, e1.out, Int.toNat_natCast, ↓reduceIte]
            rw [show (st ++ [x]).take st.length = st by simp]
        · simp only [hqp, ↓reduceIte] at hb
          cases hb
      · simp only [hO, ↓reduceIte] at hb
        cases hb
theorem ev_l11Stack (l : List Int) (s : ByteArray) (h : duelB l s = true) (hs : s.size ≤ 1048576) : Ev (fun k => spec_l11Stack.f k l s) (stk (bs s) l [] 0).1 := by
  obtain ⟨h0, h1, h6, hl, p, q, hb⟩ := duelB_facts h
  have := ev_l11Stack_l0 l s h6 hs s.size 0 0 0 [] 0 (by omega) (by omega) (by simp) (by omega) (by rw [List.drop_zero]; exact Option.isSome_iff_exists.2 ⟨_, hb⟩)
  simp only [List.drop_zero] at this
  exact this
/-! ### the signs with which a beginning goes on -/
theorem isBeg_snoc (n : Int) (s t : ByteArray) (c : Int) (ht : bs t = [c]) (p q : Int) (h : isBeg n s = true) (hb : beg n (bs s) 0 0 = some (p, q)) : isBeg n (s ++ t) = (if c = 73 then decide (p < n) else if c = 79 then decide (q < p) else false) := by
  unfold isBeg at h ⊢
  simp only [Bool.and_eq_true, decide_eq_true_eq] at h
  obtain ⟨⟨⟨h1, h6⟩, hl⟩, _⟩ := h
  have b := beg_bounds n (bs s) 0 0 p q (by omega) (by omega) hb
  rw [bs_length] at b
  have ht1 : t.size = 1 := by rw [← bs_length, ht]; rfl
  rw [bs_append, beg_append, hb, ht, size_append, ht1]
  simp only [Option.bind_some, beg]
  by_cases h73 : c = 73
  · simp only [h73, ↓reduceIte]
    by_cases hp : p < n
    · simp [hp, h1, h6]
      omega
    · simp [hp]
  · simp only [h73, ↓reduceIte]
    by_cases h79 : c = 79
    · simp only [h79, ↓reduceIte]
      by_cases hp : q < p
      · simp [hp, h1, h6]
        omega
      · simp [hp]
    · simp [h79]
/-- The signs with which a beginning with p pushes and q pops goes on. -/
def signs (n p q : Int) : ByteArray := (if p < n then (⟨#[73]⟩ : ByteArray) else ⟨#[]⟩) ++ (if q < p then (⟨#[79]⟩ : ByteArray) else ⟨#[]⟩)
theorem ev_nextSigns (n : Int) (s : ByteArray) (hs : s.size ≤ 1048576) (p q : Int) (h : isBeg n s = true) (hb : beg n (bs s) 0 0 = some (p, q)) : Ev (fun k => impl_nextSigns.f k n s) (signs n p q) := by
  have hI := isBeg_snoc n s ⟨#[73]⟩ 73 rfl p q h hb
  have hO := isBeg_snoc n s ⟨#[79]⟩ 79 rfl p q h hb
  have hl : (s.size : Int) ≤ 12 := by
    unfold isBeg at h
    simp only [Bool.and_eq_true, decide_eq_true_eq] at h
    omega
  simp only [↓reduceIte] at hI
  rw [if_neg (by decide), if_pos rfl] at hO
  simp only [impl_nextSigns.f, Option.bind_some]
  have z0 : rdOf ByteArray.empty ([(⟨#[73]⟩ : ByteArray), (⟨#[79]⟩ : ByteArray)] : List ByteArray) 0 = ⟨#[73]⟩ := rfl
  have z1 : rdOf ByteArray.empty ([(⟨#[73]⟩ : ByteArray), (⟨#[79]⟩ : ByteArray)] : List ByteArray) 1 = ⟨#[79]⟩ := rfl
  have s73 : (⟨#[73]⟩ : ByteArray).size = 1 := rfl
  have s79 : (⟨#[79]⟩ : ByteArray).size = 1 := rfl
  have k1 : s.size + 1 ≤ 9223372036854775807 := by omega
  have nn : (([(⟨#[73]⟩ : ByteArray), (⟨#[79]⟩ : ByteArray)] : List ByteArray).length : Int) = 2 := rfl
  have w1 : wrap64 (0 + 1) = 1 := by unfold wrap64; omega
  have w2 : wrap64 (1 + 1) = 2 := by unfold wrap64; omega
  have e0 : (⟨#[]⟩ : ByteArray).size = 0 := rfl
  have last : ∀ out : ByteArray, Ev (fun k => impl_nextSigns.l0 k n s out [(⟨#[73]⟩ : ByteArray), (⟨#[79]⟩ : ByteArray)] 2 2) out := fun out => Ev.step (fun k => by simp only [impl_nextSigns.l0]; rfl) (Ev.now _)
  have second : ∀ out : ByteArray, out.size ≤ 1 → Ev (fun k => impl_nextSigns.l0 k n s out [(⟨#[73]⟩ : ByteArray), (⟨#[79]⟩ : ByteArray)] 2 1) (out ++ (if q < p then (⟨#[79]⟩ : ByteArray) else ⟨#[]⟩)) := by
    intro out ho
    have k2 : out.size + 1 ≤ 9223372036854775807 := by omega
    refine Ev.step (f := fun k => (impl_isBeginning.f k n (s ++ ⟨#[79]⟩)).bind fun t => if t = true then impl_nextSigns.l0 k n s (out ++ ⟨#[79]⟩) [(⟨#[73]⟩ : ByteArray), (⟨#[79]⟩ : ByteArray)] 2 2 else impl_nextSigns.l0 k n s out [(⟨#[73]⟩ : ByteArray), (⟨#[79]⟩ : ByteArray)] 2 2) (fun k => ?_) ?_
    · simp only [impl_nextSigns.l0, nn, z1, s79, k1, k2, w2, ↓reduceIte, show ((1 : Int) < 2) = True by decide, show ((0 : Int) ≤ 1) = True by decide]
    · refine Ev.bind (ev_isBeginning n (s ++ ⟨#[79]⟩) (by rw [size_append]; omega)) ?_
      rw [hO]
      by_cases hq : q < p
      · simp only [hq, decide_true, ↓reduceIte]
        exact last _
      · simp only [hq, decide_false, Bool.false_eq_true, ↓reduceIte]
        have : out ++ (⟨#[]⟩ : ByteArray) = out := bs_inj (by rw [bs_append]; simp [bs])
        rw [this]
        exact last _
  refine Ev.step (f := fun k => (impl_isBeginning.f k n (s ++ ⟨#[73]⟩)).bind fun t => if t = true then impl_nextSigns.l0 k n s (⟨#[]⟩ ++ ⟨#[73]⟩) [(⟨#[73]⟩ : ByteArray), (⟨#[79]⟩ : ByteArray)] 2 1 else impl_nextSigns.l0 k n s ⟨#[]⟩ [(⟨#[73]⟩ : ByteArray), (⟨#[79]⟩ : ByteArray)] 2 1) (fun k => ?_) ?_
  · simp only [impl_nextSigns.l0, nn, z0, s73, e0, k1, w1, ↓reduceIte, show ((0 : Int) < 2) = True by decide, show ((0 : Int) ≤ 0) = True by decide, show (0 + 1 ≤ 9223372036854775807) = True by decide]
  · refine Ev.bind (ev_isBeginning n (s ++ ⟨#[73]⟩) (by rw [size_append]; omega)) ?_
    rw [hI]
    unfold signs
    by_cases hp : p < n
    · simp only [hp, decide_true, ↓reduceIte]
      exact second _ (by decide)
    · simp only [hp, decide_false, Bool.false_eq_true, ↓reduceIte]
      exact second _ (by decide)
theorem ev_l11Signs (n : Int) (s : ByteArray) (hs : s.size ≤ 1048576) (p q : Int) (h : isBeg n s = true) (hb : beg n (bs s) 0 0 = some (p, q)) : Ev (fun k => spec_l11Signs.f k n s) (signs n p q) := by
  unfold isBeg at h
  simp only [Bool.and_eq_true, decide_eq_true_eq] at h
  obtain ⟨⟨⟨h1, h6⟩, hl⟩, _⟩ := h
  have b := beg_bounds n (bs s) 0 0 p q (by omega) (by omega) hb
  rw [bs_length] at b
  have r := ev_l11In n s h1 h6 hs
  rw [if_pos hl, hb] at r
  simp only [begR] at r
  unfold spec_l11Signs.f signs
  refine Ev.bind r ?_
  have e : wrap64 (Int.tdiv (wrap64 ((s.size : Int) + (p - q))) 2) = p := by
    rw [wr (i := (s.size : Int) + (p - q)) (by omega) (by omega), show (s.size : Int) + (p - q) = 2 * p by omega, Int.mul_tdiv_cancel_left _ (by decide)]
    exact wr (by omega) (by omega)
  simp only [e]
  have g : (p - q > 0) = (q < p) := by simp only [gt_iff_lt, eq_iff_iff]; omega
  simp only [g]
  by_cases hp : p < n <;> by_cases hq : q < p <;> simp only [hp, hq, ↓reduceIte, show (1 + 1 ≤ 9223372036854775807) = True by decide, show (0 + 1 ≤ 9223372036854775807) = True by decide]
  all_goals first | exact Ev.now _ | exact (bs_inj (by rw [bs_append]; rfl) : (⟨#[73]⟩ : ByteArray) = ⟨#[73]⟩ ++ ⟨#[]⟩) ▸ Ev.now _
/-! ### the value of a beginning -/
def sl (n p q : Int) : List Int := (if p < n then [73] else []) ++ (if q < p then [79] else [])
theorem signs_bs (n p q : Int) : bs (signs n p q) = sl n p q := by
  unfold signs sl
  rw [bs_append]
  split <;> split <;> rfl
theorem signs_cut (n p q : Int) (j : Nat) (hj : j < (sl n p q).length) : (signs n p q).extract j (j + 1) = sg ((sl n p q)[j]'hj) := by
  revert hj
  unfold signs sl
  by_cases h1 : p < n <;> by_cases h2 : q < p <;> simp only [h1, h2, ↓reduceIte] <;> intro hj
  · match j, hj with
    | 0, _ => rfl
    | 1, _ => rfl
  · match j, hj with
    | 0, _ => rfl
  · match j, hj with
    | 0, _ => rfl
  · exact absurd hj (by simp)
theorem sl_mem {n p q c : Int} (h : c ∈ sl n p q) : (c = 73 ∧ p < n) ∨ (c = 79 ∧ q < p) := by
  unfold sl at h
  by_cases h1 : p < n <;> by_cases h2 : q < p <;> simp [h1, h2] at h ⊢ <;> exact h
theorem sl_len (n p q : Int) : (sl n p q).length ≤ 2 := by
  unfold sl
  split <;> split <;> decide
def slO (l : List Int) (s : ByteArray) : List Int := match beg (l.length : Int) (bs s) 0 0 with | some r => sl (l.length : Int) r.1 r.2 | none => []
def gv (l : List Int) (V : ByteArray → Int) (s : ByteArray) (c : Int) : Int := wrap64 ((if c = 79 then (stk (bs s) l [] 0).1.getLastD 0 else 0) - V (s ++ sg c))
def lp (G : Int → Int) : List Int → Bool → Int → Int
  | [], _, best => best
  | c :: t, first, best => lp G t false (if first = true ∨ G c > best then G c else best)
def vl (l : List Int) : Nat → ByteArray → Int
  | 0, _ => 0
  | m + 1, s => lp (gv l (vl l m) s) (slO l s) true 0
theorem stk_snoc : ∀ (a rest st : List Int) (pd c : Int), (stk (a ++ [c]) rest st pd).2 = if c = 73 then 0 else (stk a rest st pd).1.getLastD 0
  | [], rest, st, pd, c => by simp only [stk, List.nil_append]; split <;> rfl
  | d :: t, rest, st, pd, c => by
    simp only [stk, List.cons_append]
    split
    · exact stk_snoc t _ _ _ c
    · exact stk_snoc t _ _ _ c
theorem stk_high (n : Int) : ∀ (a rest st : List Int) (pd p q p' q' : Int), beg n a p q = some (p', q') → (st.length : Int) = p - q → ((stk a rest st pd).1.length : Int) = p' - q'
  | [], rest, st, pd, p, q, p', q', h, hl => by
    simp only [beg, Option.some.injEq, Prod.mk.injEq] at h
    obtain ⟨rfl, rfl⟩ := h
    exact hl
  | c :: t, rest, st, pd, p, q, p', q', h, hl => by
    simp only [beg] at h
    simp only [stk]
    by_cases h73 : c = 73
    · simp only [h73, ↓reduceIte] at h ⊢
      by_cases hp : p < n
      · simp only [hp, ↓reduceIte] at h
        exact stk_high n t _ _ _ _ _ _ _ h (by rw [List.length_append, List.length_singleton]; omega)
      · simp only [hp, ↓reduceIte] at h
        cases h
    · simp only [h73, ↓reduceIte] at h ⊢
      by_cases h79 : c = 79
      · simp only [h79, ↓reduceIte] at h
        by_cases hq : q < p
        · simp only [hq, ↓reduceIte] at h
          exact stk_high n t _ _ _ _ _ _ _ h (by rw [List.length_dropLast]; omega)
        · simp only [hq, ↓reduceIte] at h
          cases h
      · simp only [h79, ↓reduceIte] at h
        cases h
theorem sg_bs {c : Int} (h : c = 73 ∨ c = 79) : bs (sg c) = [c] := by rcases h with rfl | rfl <;> rfl
theorem sg_size (c : Int) : (sg c).size = 1 := by unfold sg; split <;> rfl
theorem duel_step {l : List Int} {s : ByteArray} {p q c : Int} (h : duelB l s = true) (hb : beg (l.length : Int) (bs s) 0 0 = some (p, q)) (hc : c ∈ sl (l.length : Int) p q) : duelB l (s ++ sg c) = true := by
  have hh := h
  unfold duelB at hh ⊢
  simp only [Bool.and_eq_true] at hh ⊢
  refine ⟨hh.1, ?_⟩
  rcases sl_mem hc with ⟨rfl, hp⟩ | ⟨rfl, hq⟩
  · rw [isBeg_snoc (l.length : Int) s (sg 73) 73 rfl p q hh.2 hb, if_pos rfl]
    exact decide_eq_true hp
  · rw [isBeg_snoc (l.length : Int) s (sg 79) 79 rfl p q hh.2 hb, if_neg (by decide), if_pos rfl]
    exact decide_eq_true hq
theorem isBeg_of {l : List Int} {s : ByteArray} (h : duelB l s = true) : isBeg (l.length : Int) s = true := by
  unfold duelB at h
  simp only [Bool.and_eq_true] at h
  exact h.2
theorem ev_dlp (G : Nat → Int → Option Int) (H : Int → Int) : ∀ (L : List Int) (f : Bool) (b : Int), (∀ c ∈ L, Ev (fun k => G k c) (H c)) → Ev (fun k => dlp (G k) L f b) (lp H L f b)
  | [], f, b, _ => Ev.now _
  | c :: t, f, b, h => by
    simp only [dlp, lp]
    exact Ev.bind (h c (List.mem_cons_self)) (ev_dlp G H t _ _ fun x hx => h x (List.mem_cons_of_mem _ hx))
theorem ev_slp (G : Nat → ByteArray → Option Int) (H : Int → Int) (sgn : ByteArray) (L : List Int) (h : ∀ j (hj : j < L.length), Ev (fun k => G k (sgn.extract j (j + 1))) (H (L[j]'hj))) : ∀ (d i : Nat) (b : Int), i + d = L.length → Ev (fun k => slp (G k) sgn d i b) (lp H (L.drop i) (decide (i = 0)) b)
  | 0, i, b, hi => by
    rw [List.drop_of_length_le (by omega)]
    exact Ev.now _
  | d + 1, i, b, hi => by
    rw [List.drop_eq_getElem_cons (by omega)]
    simp only [slp, lp]
    refine Ev.bind (h i (by omega)) ?_
    have := ev_slp G H sgn L h d (i + 1) (if i = 0 ∨ H (L[i]'(by omega)) > b then H (L[i]'(by omega)) else b) (by omega)
    simp only [decide_eq_true_eq]
    exact this
theorem ev_dval (l : List Int) : ∀ (m : Nat) (s : ByteArray), duelB l s = true → 2 * l.length < m + s.size → Ev (fun k => dval k l m s) (vl l m s)
  | 0, s, h, hm => by
    obtain ⟨_, _, _, hl, _⟩ := duelB_facts h
    omega
  | m + 1, s, h, hm => by
    obtain ⟨h0, h1, h6, hl, p, q, hb⟩ := duelB_facts h
    simp only [dval, vl]
    refine Ev.bind (ev_nextSigns (l.length : Int) s (by omega) p q (isBeg_of h) hb) ?_
    have hsz : (signs (l.length : Int) p q).size ≤ 2 := by rw [← bs_length, signs_bs]; exact sl_len _ _ _
    rw [show slO l s = sl (l.length : Int) p q by unfold slO; rw [hb]]
    simp only [show ((signs (l.length : Int) p q).size ≤ 2 ∧ s.size ≤ 1000) = True from eq_true ⟨hsz, by omega⟩, ↓reduceIte]
    rw [show bytesOf (signs (l.length : Int) p q) = sl (l.length : Int) p q from signs_bs _ _ _]
    refine ev_dlp (fun k => dgain k l (dval k l m) s) _ _ _ _ fun c hc => ?_
    have hd := duel_step h hb hc
    have hc2 : c = 73 ∨ c = 79 := by rcases sl_mem hc with ⟨e, _⟩ | ⟨e, _⟩; exact .inl e; exact .inr e
    have hs1 : (s ++ sg c).size = s.size + 1 := by rw [size_append, sg_size]
    simp only [dgain, show ((c = 73 ∨ c = 79) ∧ s.size ≤ 1000) = True from eq_true ⟨hc2, by omega⟩, ↓reduceIte]
    refine Ev.bind (ev_stackAfter l (s ++ sg c) hd (by omega)) ?_
    refine Ev.bind (ev_dval l m (s ++ sg c) hd (by omega)) ?_
    have e : (stk (bs (s ++ sg c)) l [] 0).2 = if c = 79 then (stk (bs s) l [] 0).1.getLastD 0 else 0 := by
      rw [bs_append, sg_bs hc2, stk_snoc]
      rcases hc2 with rfl | rfl <;> rfl
    rw [e]
    exact Ev.now _
theorem ev_sby (l : List Int) (V : Nat → ByteArray → Option Int) (W : ByteArray → Int) (s : ByteArray) (h : duelB l s = true) (p q : Int) (hb : beg (l.length : Int) (bs s) 0 0 = some (p, q)) (c : Int) (hc : c ∈ sl (l.length : Int) p q) (hV : Ev (fun k => V k (s ++ sg c)) (W (s ++ sg c))) : Ev (fun k => sby k l (V k) s (sg c)) (gv l W s c) := by
  obtain ⟨h0, h1, h6, hl, _⟩ := duelB_facts h
  have hc2 := sl_mem hc
  simp only [sby, show (s.size + (sg c).size ≤ 1000000) = True from eq_true (by rw [sg_size]; omega), ↓reduceIte]
  have hg : Ev (fun k => if (sg c).toList = ([79] : List UInt8) then (spec_l11Stack.f k l s).bind fun t => if 0 < t.length ∧ t.length ≤ 1000000 then some (rd t ((t.length : Int) - 1)) else none else some 0) (if c = 79 then (stk (bs s) l [] 0).1.getLastD 0 else 0) := by
    rcases hc2 with ⟨rfl, hp⟩ | ⟨rfl, hq⟩
    · have e : ¬ (sg 73).toList = ([79] : List UInt8) := by decide +kernel
      simp only [e, ↓reduceIte, show ¬ ((73 : Int) = 79) by decide]
      exact Ev.now _
    · have e : (sg 79).toList = ([79] : List UInt8) := by decide +kernel
      simp only [e, ↓reduceIte]
      refine Ev.bind (ev_l11Stack l s h (by omega)) ?_
      have hh := stk_high (l.length : Int) (bs s) l [] 0 0 0 p q hb (by simp)
      have b := beg_bounds (l.length : Int) (bs s) 0 0 p q (by omega) (by omega) hb
      rw [bs_length] at b
      generalize (stk (bs s) l [] 0).1 = t at hh ⊢
      simp only [show (0 < t.length ∧ t.length ≤ 1000000) = True from eq_true ⟨by omega, by omega⟩, ↓reduceIte]
      rw [show rd t ((t.length : Int) - 1) = t.getLastD 0 by
        rcases snoc_cases t with rfl | ⟨m, x, rfl⟩
        · simp at hh; omega
        · rw [show (((m ++ [x]).length : Int) - 1) = (m.length : Int) by simp, rd_nat]; simp]
      exact Ev.now _
  exact Ev.bind hg (Ev.bind hV (Ev.now _))
theorem ev_sval (l : List Int) : ∀ (m : Nat) (s : ByteArray), duelB l s = true → 2 * l.length < m + s.size → Ev (fun k => sval k l m s) (vl l m s)
  | 0, s, h, hm => by
    obtain ⟨_, _, _, hl, _⟩ := duelB_facts h
    omega
  | m + 1, s, h, hm => by
    obtain ⟨h0, h1, h6, hl, p, q, hb⟩ := duelB_facts h
    simp only [sval, vl]
    refine Ev.bind (ev_l11Signs (l.length : Int) s (by omega) p q (isBeg_of h) hb) ?_
    have hlen : (sl (l.length : Int) p q).length = (signs (l.length : Int) p q).size := by rw [← bs_length, signs_bs]
    have hsz : (signs (l.length : Int) p q).size ≤ 4 := by have := sl_len (l.length : Int) p q; omega
    rw [show slO l s = sl (l.length : Int) p q by unfold slO; rw [hb]]
    simp only [hsz, ↓reduceIte]
    refine ev_slp (fun k => sby k l (sval k l m) s) (gv l (vl l m) s) (signs (l.length : Int) p q) (sl (l.length : Int) p q) (fun j hj => ?_) _ 0 0 (by omega)
    rw [signs_cut (l.length : Int) p q j hj]
    have hc : (sl (l.length : Int) p q)[j]'hj ∈ sl (l.length : Int) p q := List.getElem_mem hj
    have hd := duel_step h hb hc
    exact ev_sby l (fun k => sval k l m) (vl l m) s h p q hb _ hc (ev_sval l m _ hd (by rw [size_append, sg_size]; omega))
theorem ev_l11Value (l : List Int) (s : ByteArray) (h : duelB l s = true) : Ev (fun k => spec_l11Value.f k l s) (vl l 14 s) := by
  obtain ⟨_, _, h6, _⟩ := duelB_facts h
  obtain ⟨K, hK⟩ := ev_sval l 14 s h (by omega)
  refine ⟨K + 14, fun k hk => ?_⟩
  exact at_rounds (g := fun m => sval k l m s) (fun m => sval_more k l m s) (by omega : 14 ≤ k) (hK k (by omega))
theorem ev_DuelValue (l : List Int) (s : ByteArray) (hs : s.size ≤ 1048576) : Ev (fun k => impl_DuelValue.f k l s) (if duelB l s = true then (vl l 14 s, true) else (0, false)) := by
  unfold impl_DuelValue.f
  refine Ev.bind (ev_isDuel l s hs) ?_
  by_cases h : duelB l s = true
  · obtain ⟨_, _, h6, _⟩ := duelB_facts h
    simp only [h, ↓reduceIte]
    exact Ev.bind (ev_dval l 14 s h (by omega)) (Ev.now _)
  · simp only [h, Bool.false_eq_true, ↓reduceIte]
    exact Ev.now _
/-! ### the best signs -/
def bstL (G : Int → Int) (v : Int) : List Int → ByteArray → ByteArray
  | [], o => o
  | c :: t, o => bstL G v t (if G c = v then o ++ sg c else o)
def bestB (l : List Int) (s : ByteArray) : ByteArray := bstL (gv l (vl l 14) s) (vl l 14 s) (slO l s) ⟨#[]⟩
theorem slO_eq {l : List Int} {s : ByteArray} {p q : Int} (hb : beg (l.length : Int) (bs s) 0 0 = some (p, q)) : slO l s = sl (l.length : Int) p q := by unfold slO; rw [hb]
theorem bstL_size (G : Int → Int) (v : Int) : ∀ L o, (bstL G v L o).size ≤ o.size + L.length
  | [], o => Nat.le_refl _
  | c :: t, o => by
    simp only [bstL]
    have := bstL_size G v t (if G c = v then o ++ sg c else o)
    split at this
    · rename_i h
      rw [size_append, sg_size] at this
      simp only [h, ↓reduceIte, List.length_cons]
      omega
    · rename_i h
      simp only [h, ↓reduceIte, List.length_cons]
      omega
theorem bestB_size (l : List Int) (s : ByteArray) : (bestB l s).size ≤ 2 := by
  have h := bstL_size (gv l (vl l 14) s) (vl l 14 s) (slO l s) ⟨#[]⟩
  have h2 : (slO l s).length ≤ 2 := by
    unfold slO
    split
    · exact sl_len _ _ _
    · exact Nat.zero_le _
  have h3 : (⟨#[]⟩ : ByteArray).size = 0 := rfl
  unfold bestB
  omega
theorem ev_by (l : List Int) (s : ByteArray) (h : duelB l s = true) (p q : Int) (hb : beg (l.length : Int) (bs s) 0 0 = some (p, q)) (c : Int) (hc : c ∈ sl (l.length : Int) p q) : Ev (fun k => spec_l11By.f k l s (sg c)) (gv l (vl l 14) s c) :=
  ev_sby l (fun k => sval k l k) (vl l 14) s h p q hb c hc (ev_l11Value l _ (duel_step h hb hc))
theorem ev_gain (l : List Int) (s : ByteArray) (h : duelB l s = true) (p q : Int) (hb : beg (l.length : Int) (bs s) 0 0 = some (p, q)) (c : Int) (hc : c ∈ sl (l.length : Int) p q) : Ev (fun k => dgain k l (dval k l 14) s c) (gv l (vl l 14) s c) := by
  obtain ⟨h0, h1, h6, hl, _⟩ := duelB_facts h
  have hd := duel_step h hb hc
  have hc2 : c = 73 ∨ c = 79 := by rcases sl_mem hc with ⟨e, _⟩ | ⟨e, _⟩; exact .inl e; exact .inr e
  have hs1 : (s ++ sg c).size = s.size + 1 := by rw [size_append, sg_size]
  simp only [dgain, show ((c = 73 ∨ c = 79) ∧ s.size ≤ 1000) = True from eq_true ⟨hc2, by omega⟩, ↓reduceIte]
  refine Ev.bind (ev_stackAfter l (s ++ sg c) hd (by omega)) ?_
  refine Ev.bind (ev_dval l 14 (s ++ sg c) hd (by omega)) ?_
  have e : (stk (bs (s ++ sg c)) l [] 0).2 = if c = 79 then (stk (bs s) l [] 0).1.getLastD 0 else 0 := by
    rw [bs_append, sg_bs hc2, stk_snoc]
    rcases hc2 with rfl | rfl <;> rfl
  rw [e]
  exact Ev.now _
theorem signs_length (n p q : Int) : (signs n p q).size = (sl n p q).length := by rw [← bs_length, signs_bs]
/-! ### bounds; the value is the greatest gain -/
theorem stk_bound : ∀ (a rest st : List Int) (pd : Int), (∀ x ∈ rest, 0 ≤ x ∧ x ≤ 7) → (∀ x ∈ st, 0 ≤ x ∧ x ≤ 7) → ∀ x ∈ (stk a rest st pd).1, 0 ≤ x ∧ x ≤ 7
  | [], rest, st, pd, _, h => h
  | c :: t, rest, st, pd, hr, hs => by
    simp only [stk]
    split
    · refine stk_bound t _ _ _ (fun x hx => hr x (List.mem_of_mem_tail hx)) ?_
      intro x hx
      rcases List.mem_append.1 hx with hx | hx
      · exact hs x hx
      · rw [List.mem_singleton] at hx
        subst hx
        cases rest with
        | nil => exact ⟨by decide, by decide⟩
        | cons y ys => exact hr y List.mem_cons_self
    · exact stk_bound t _ _ _ hr (fun x hx => hs x ((List.dropLast_sublist st).subset hx))
theorem last_bound {t : List Int} (h : ∀ x ∈ t, 0 ≤ x ∧ x ≤ 7) : 0 ≤ t.getLastD 0 ∧ t.getLastD 0 ≤ 7 := by
  rcases snoc_cases t with rfl | ⟨m, x, rfl⟩
  · exact ⟨by decide, by decide⟩
  · have := h x (by simp)
    rw [show (m ++ [x]).getLastD 0 = x by simp]
    exact this
theorem gv_bound {l : List Int} (h : ordB l = true) (V : ByteArray → Int) (B : Int) (hB : B ≤ 1000) (s : ByteArray) (c : Int) (hV : ∀ s, -B ≤ V s ∧ V s ≤ B) : -(B + 7) ≤ gv l V s c ∧ gv l V s c ≤ B + 7 := by
  have hx : 0 ≤ (if c = 79 then (stk (bs s) l [] 0).1.getLastD 0 else 0) ∧ (if c = 79 then (stk (bs s) l [] 0).1.getLastD 0 else 0) ≤ 7 := by
    split
    · refine last_bound (stk_bound _ _ _ _ (fun x hx => ?_) (fun x hx => absurd hx (by simp)))
      have h7 := (ordB_len h).2
      have := ordB_range h x hx
      omega
    · exact ⟨by decide, by decide⟩
  have hv := hV (s ++ sg c)
  unfold gv
  rw [wr (by omega) (by omega)]
  omega
theorem lp_bound (G : Int → Int) (B : Int) (hG : ∀ c, -B ≤ G c ∧ G c ≤ B) : ∀ (L : List Int) (f : Bool) (b : Int), -B ≤ b ∧ b ≤ B → -B ≤ lp G L f b ∧ lp G L f b ≤ B
  | [], f, b, h => h
  | c :: t, f, b, h => by
    simp only [lp]
    refine lp_bound G B hG t _ _ ?_
    split
    · exact hG c
    · exact h
theorem vl_bound {l : List Int} (h : ordB l = true) : ∀ (m : Nat), m ≤ 100 → ∀ s, -(7 * (m : Int)) ≤ vl l m s ∧ vl l m s ≤ 7 * (m : Int)
  | 0, _, s => ⟨by simp [vl], by simp [vl]⟩
  | m + 1, hm, s => by
    simp only [vl]
    refine lp_bound _ (7 * ((m + 1 : Nat) : Int)) (fun c => ?_) _ _ _ ⟨by omega, by omega⟩
    have := gv_bound h (vl l m) (7 * (m : Int)) (by omega) s c (vl_bound h m (by omega))
    omega
theorem vl_more {l : List Int} {m : Nat} {s : ByteArray} (h : duelB l s = true) (hm : 2 * l.length < m + s.size) : vl l m s = vl l (m + 1) s := by
  obtain ⟨K1, h1⟩ := ev_dval l m s h hm
  obtain ⟨K2, h2⟩ := ev_dval l (m + 1) s h (by omega)
  exact dval_one (h1 (K1 + K2) (by omega)) (h2 (K1 + K2) (by omega))
theorem lp_congr {G H : Int → Int} : ∀ (L : List Int) (f : Bool) (b : Int), (∀ c ∈ L, G c = H c) → lp G L f b = lp H L f b
  | [], f, b, _ => rfl
  | c :: t, f, b, h => by
    simp only [lp, h c List.mem_cons_self]
    exact lp_congr t _ _ fun x hx => h x (List.mem_cons_of_mem _ hx)
theorem vl_eq {l : List Int} {s : ByteArray} (h : duelB l s = true) {p q : Int} (hb : beg (l.length : Int) (bs s) 0 0 = some (p, q)) : vl l 14 s = lp (gv l (vl l 14) s) (sl (l.length : Int) p q) true 0 := by
  obtain ⟨h0, h1, h6, hl, _⟩ := duelB_facts h
  show lp (gv l (vl l 13) s) (slO l s) true 0 = _
  rw [slO_eq hb]
  refine lp_congr _ _ _ fun c hc => ?_
  unfold gv
  rw [vl_more (duel_step h hb hc) (by rw [size_append, sg_size]; omega)]
/-! ### the sorted order -/
theorem iota_get (n i : Nat) (h : i < n) : rd (iota 1 n) (i : Int) = 1 + (i : Int) := rd_iota 1 n i h
theorem ev_l2Sorted (n : Nat) (hn : n ≤ 1000) : Ev (fun k => spec_l2Sorted.f k (n : Int)) (iota 1 n) := by
  have go : ∀ (m j : Nat), j + m = n → Ev (fun k => spec_l2Sorted.l0 k (n : Int) (iota 1 j) (1 + (j : Int))) (iota 1 n) := by
    intro m
    induction m with
    | zero =>
      intro j hj
      have c : ¬ 1 + (j : Int) ≤ (n : Int) := by omega
      obtain rfl : j = n := by omega
      exact Ev.step (f := fun _ => some (iota 1 j)) (fun k => by simp only [spec_l2Sorted.l0, c, ↓reduceIte]) (Ev.now _)
    | succ m ih =>
      intro j hj
      have c : 1 + (j : Int) ≤ (n : Int) := by omega
      have lim : (iota 1 j).length < 17592186044416 := by rw [iota_length]; omega
      have e := Aside0.mk (show wrap64 (1 + (j : Int) + 1) = 1 + ((j + 1 : Nat) : Int) from by rw [wr (by omega) (by omega)]; omega)
      refine Ev.step (fun k => ?_) (ih (j + 1) (by omega))
      simp only [spec_l2Sorted.l0, c, lim, e.out, ↓reduceIte]
      rw [iota_succ]
  have := go n 0 (by omega)
  exact this
theorem ev_sorted (n : Nat) (hn : n ≤ 1000) : Ev (fun k => impl_sorted.f k (n : Int)) (iota 1 n) := by
  have go : ∀ (m j : Nat), j + m = n → Ev (fun k => impl_sorted.l0 k (iota 1 j) (n : Int) (j : Int)) (iota 1 n) := by
    intro m
    induction m with
    | zero =>
      intro j hj
      have c : ¬ (j : Int) < (n : Int) := by omega
      obtain rfl : j = n := by omega
      exact Ev.step (f := fun _ => some (iota 1 j)) (fun k => by simp only [impl_sorted.l0, c, ↓reduceIte]) (Ev.now _)
    | succ m ih =>
      intro j hj
      have c : (j : Int) < (n : Int) := by omega
      have lim : (iota 1 j).length < 17592186044416 := by rw [iota_length]; omega
      have e := Aside0.mk (show wrap64 ((j : Int) + 1) = ((j + 1 : Nat) : Int) from wj (by omega))
      refine Ev.step (fun k => ?_) (ih (j + 1) (by omega))
      simp only [impl_sorted.l0, c, lim, e.out, ↓reduceIte]
      rw [iota_succ, show (1 : Int) + (j : Int) = ((j + 1 : Nat) : Int) by omega]
  exact go n 0 (by omega)
/-! ### all orders of so many numbers -/
def fct : Nat → Nat
  | 0 => 1
  | n + 1 => (n + 1) * fct n
theorem fct_pos : ∀ n, 0 < fct n
  | 0 => by decide
  | n + 1 => Nat.mul_pos (by omega) (fct_pos n)
theorem ev_factorial (m : Nat) (h : m ≤ 7) : Ev (fun k => impl_factorial.f k (m : Int)) (fct m : Int) := by
  have hm : m = 0 ∨ m = 1 ∨ m = 2 ∨ m = 3 ∨ m = 4 ∨ m = 5 ∨ m = 6 ∨ m = 7 := by omega
  rcases hm with rfl | rfl | rfl | rfl | rfl | rfl | rfl | rfl <;> exact Ev.of (fun k => impl_factorial.mono _ k) (k := 20) (by decide +kernel)
theorem fct_le : ∀ m, m ≤ 7 → fct m ≤ 5040 := by
  intro m h
  have hm : m = 0 ∨ m = 1 ∨ m = 2 ∨ m = 3 ∨ m = 4 ∨ m = 5 ∨ m = 6 ∨ m = 7 := by omega
  rcases hm with rfl | rfl | rfl | rfl | rfl | rfl | rfl | rfl <;> decide
/-- The order with a rank, out of the numbers that are left. -/
def unr : Nat → List Int → Nat → List Int
  | 0, _, _ => []
  | m + 1, left, k => rd left ((k / fct m : Nat) : Int) :: unr m (left.eraseIdx (k / fct m)) (k % fct m)
theorem unr_len : ∀ m left k, (unr m left k).length = m
  | 0, _, _ => rfl
  | m + 1, left, k => by rw [unr, List.length_cons, unr_len m]
theorem unr_perm : ∀ (m : Nat) (left : List Int) (k : Nat), left.length = m → k < fct m → (unr m left k).Perm left
  | 0, left, k, hl, _ => by
    obtain rfl := List.eq_nil_of_length_eq_zero hl
    exact List.Perm.refl _
  | m + 1, left, k, hl, hk => by
    have hq : k / fct m < left.length := by
      rw [hl]
      exact Nat.div_lt_of_lt_mul (by rw [Nat.mul_comm]; exact hk)
    have ih := unr_perm m (left.eraseIdx (k / fct m)) (k % fct m) (by rw [List.length_eraseIdx_of_lt hq]; omega) (Nat.mod_lt _ (fct_pos m))
    rw [unr, rd_get left _ hq]
    refine (List.Perm.cons _ ih).trans ?_
    rw [List.eraseIdx_eq_take_drop_succ]
    have h1 : left = left.take (k / fct m) ++ left[k / fct m] :: left.drop (k / fct m + 1) := by
      rw [← List.drop_eq_getElem_cons hq, List.take_append_drop]
    exact (List.perm_middle.symm.trans (by rw [← h1]))
theorem ev_orderAt0 : ∀ (m : Nat) (left out : List Int) (k : Nat), left.length = m → m ≤ 7 → k < fct m → out.length + m ≤ 100 → Ev (fun K => impl_orderAt.l0 K (m + 1) (k : Int) left out) (out ++ unr m left k)
  | 0, left, out, k, hl, _, _, _ => by
    have c : ¬ 0 < left.length := by omega
    rw [unr, List.append_nil]
    exact Ev.congr (f := fun _ => some out) (fun K => by simp only [impl_orderAt.l0, c, ↓reduceIte]) (Ev.now _)
  | m + 1, left, out, k, hl, hm, hk, ho => by
    have c : 0 < left.length := by omega
    have hq : k / fct m < left.length := by
      rw [hl]
      exact Nat.div_lt_of_lt_mul (by rw [Nat.mul_comm]; exact hk)
    have hkb := fct_le (m + 1) hm
    have hp := fct_pos m
    have hdk : k / fct m ≤ k := Nat.div_le_self _ _
    obtain ⟨q, hqe⟩ : ∃ q : Nat, q = k / fct m := ⟨_, rfl⟩
    rw [← hqe] at hq hdk
    have HQE := Aside0.mk hqe
    clear hqe
    have e1 := Aside0.mk (show wrap64 ((left.length : Int) - 1) = (m : Int) from by rw [wr (by omega) (by omega)]; omega)
    have e2 := Aside0.mk (show wrap64 (Int.tdiv (k : Int) (fct m : Int)) = (q : Int) from by rw [← Int.ofNat_tdiv, ← HQE.out, wr (by omega) (by omega)])
    have e3 := Aside0.mk (show Int.tmod (k : Int) (fct m : Int) = ((k % fct m : Nat) : Int) from (Int.ofNat_tmod _ _).symm)
    have n0 : ¬ (fct m : Int) = 0 := by omega
    have c2 : 0 ≤ (q : Int) ∧ (q : Int) < (left.length : Int) ∧ out.length < 1000 := ⟨by omega, by omega, by omega⟩
    have ih := ev_orderAt0 m (left.eraseIdx q) (out ++ [rd left (q : Int)]) (k % fct m) (by rw [List.length_eraseIdx_of_lt hq]; omega) (by omega) (Nat.mod_lt _ hp) (by rw [List.length_append, List.length_singleton]; omega)
    rw [unr, ← HQE.out, List.append_cons]
    refine Ev.congr (f := fun K => (impl_factorial.f K (m : Int)).bind fun p => if p = 0 then none else if 0 ≤ wrap64 (Int.tdiv (k : Int) p) ∧ wrap64 (Int.tdiv (k : Int) p) < (left.length : Int) ∧ out.length < 1000 then impl_orderAt.l0 K (m + 1) (Int.tmod (k : Int) p) (left.eraseIdx (wrap64 (Int.tdiv (k : Int) p)).toNat) (out ++ [rd left (wrap64 (Int.tdiv (k : Int) p))]) else none) (fun K => ?_) (Ev.bind (ev_factorial m (by omega)) ?_)
    · rw [impl_orderAt.l0, if_pos c, e1.out]
    · simp only [if_neg n0, e2.out, e3.out, if_pos c2, Int.toNat_natCast]
      exact ih
theorem ev_orderAt (n k : Nat) (h1 : 1 ≤ n) (h7 : n ≤ 7) (hk : k < fct n) : Ev (fun K => impl_orderAt.f K (n : Int) (k : Int)) (unr n (iota 1 n) k) := by
  unfold impl_orderAt.f
  refine Ev.bind (ev_sorted n (by omega)) ?_
  have c : 0 < (iota 1 n).length := by rw [iota_length]; omega
  simp only [if_pos c]
  have := ev_orderAt0 n (iota 1 n) [] k (iota_length _ _) h7 hk (by simp; omega)
  rw [List.nil_append] at this
  rw [iota_length]
  exact this
/-- All orders of n numbers. -/
def ords (n : Nat) : List (List Int) := (List.range (fct n)).map (unr n (iota 1 n))
theorem ords_len (n : Nat) : (ords n).length = fct n := by simp [ords]
theorem ords_take (n j : Nat) (h : j < fct n) : (List.range (j + 1)).map (unr n (iota 1 n)) = (List.range j).map (unr n (iota 1 n)) ++ [unr n (iota 1 n) j] := by
  rw [List.range_succ, List.map_append]
  rfl
theorem ev_allOrders (n : Nat) (h1 : 1 ≤ n) (h7 : n ≤ 7) : Ev (fun k => impl_allOrders.f k (n : Int)) (ords n) := by
  have hb := fct_le n h7
  have go : ∀ (m j : Nat), j + m = fct n → Ev (fun k => impl_allOrders.l0 k (n : Int) ((List.range j).map (unr n (iota 1 n))) (fct n : Int) (j : Int)) (ords n) := by
    intro m
    induction m with
    | zero =>
      intro j hj
      have c : ¬ (j : Int) < (fct n : Int) := by omega
      obtain rfl : j = fct n := by omega
      exact Ev.step (f := fun _ => some (ords n)) (fun k => by simp only [impl_allOrders.l0, c, ↓reduceIte]; rfl) (Ev.now _)
    | succ m ih =>
      intro j hj
      have c : (j : Int) < (fct n : Int) := by omega
      have lim : ((List.range j).map (unr n (iota 1 n))).length < 5864062014805 := by rw [List.length_map, List.length_range]; omega
      have e := Aside0.mk (show wrap64 ((j : Int) + 1) = ((j + 1 : Nat) : Int) from wj (by omega))
      have nx := ih (j + 1) (by omega)
      rw [ords_take n j (by omega)] at nx
      refine Ev.step (f := fun k => (impl_orderAt.f k (n : Int) (j : Int)).bind fun t692 => (if ((List.range j).map (unr n (iota 1 n))).length < 5864062014805 then (impl_allOrders.l0 k (n : Int) ((List.range j).map (unr n (iota 1 n)) ++ [t692]) (fct n : Int) ((j + 1 : Nat) : Int)) else (none))) (fun k => by simp only [impl_allOrders.l0, c, e.out, ↓reduceIte]) (Ev.bind (ev_orderAt n j h1 h7 (by omega)) ?_)
      simp only [lim, ↓reduceIte]
      exact nx
  unfold impl_allOrders.f
  exact Ev.bind (ev_factorial n h7) (go (fct n) 0 (by omega))
theorem ords_mem {n : Nat} {o : List Int} (h : o ∈ ords n) : o.Perm (iota 1 n) ∧ o.length = n := by
  obtain ⟨k, hk, rfl⟩ := List.mem_map.1 h
  exact ⟨unr_perm n (iota 1 n) k (iota_length _ _) (List.mem_range.1 hk), unr_len _ _ _⟩
theorem ev_l2Ways (m : Nat) (h : m ≤ 7) : Ev (fun k => spec_l2Ways.f k (m : Int)) (fct m : Int) := by
  have hm : m = 0 ∨ m = 1 ∨ m = 2 ∨ m = 3 ∨ m = 4 ∨ m = 5 ∨ m = 6 ∨ m = 7 := by omega
  rcases hm with rfl | rfl | rfl | rfl | rfl | rfl | rfl | rfl <;> exact Ev.of (fun k => spec_l2Ways.mono _ k) (k := 20) (by decide +kernel)
theorem ev_l2At0 : ∀ (m : Nat) (left out : List Int) (k : Nat), left.length = m → m ≤ 7 → k < fct m → out.length + m ≤ 100 → Ev (fun K => spec_l2At.l0 K (k : Int) out left) (out ++ unr m left k)
  | 0, left, out, k, hl, _, _, _ => by
    have c : ¬ (left.length : Int) > 0 := by omega
    rw [unr, List.append_nil]
    exact Ev.step (f := fun _ => some out) (fun K => by simp only [spec_l2At.l0, c, ↓reduceIte]) (Ev.now _)
  | m + 1, left, out, k, hl, hm, hk, ho => by
    have c : (left.length : Int) > 0 := by omega
    have hq : k / fct m < left.length := by
      rw [hl]
      exact Nat.div_lt_of_lt_mul (by rw [Nat.mul_comm]; exact hk)
    have hkb := fct_le (m + 1) hm
    have hp := fct_pos m
    have hdk : k / fct m ≤ k := Nat.div_le_self _ _
    obtain ⟨q, hqe⟩ : ∃ q : Nat, q = k / fct m := ⟨_, rfl⟩
    rw [← hqe] at hq hdk
    have HQE := Aside0.mk hqe
    clear hqe
    have e1 := Aside0.mk (show wrap64 ((left.length : Int) - 1) = (m : Int) from by rw [wr (by omega) (by omega)]; omega)
    have e2 := Aside0.mk (show wrap64 (Int.tdiv (k : Int) (fct m : Int)) = (q : Int) from by rw [← Int.ofNat_tdiv, ← HQE.out, wr (by omega) (by omega)])
    have e3 := Aside0.mk (show Int.tmod (k : Int) (fct m : Int) = ((k % fct m : Nat) : Int) from (Int.ofNat_tmod _ _).symm)
    have e4 := Aside0.mk (show wrap64 ((q : Int) + 1) = ((q + 1 : Nat) : Int) from wj (by omega))
    have n0 : ¬ (fct m : Int) = 0 := by omega
    have c1 : 0 ≤ (q : Int) := by omega
    have c2 : (q : Int) < (left.length : Int) := by omega
    have c3 : (q : Int) ≤ (left.length : Int) := by omega
    have c4 : 0 ≤ ((q + 1 : Nat) : Int) := by omega
    have c5 : ((q + 1 : Nat) : Int) ≤ (left.length : Int) := by omega
    have c6 : out.length < 17592186044416 := by omega
    have own : spec_l1Own.f (left.take q) = some (left.take q) := by
      unfold spec_l1Own.f
      have lim : ([] : List Int).length + (left.take q).length < 17592186044416 := by simp; omega
      simp only [Option.bind_some, lim, ↓reduceIte, List.nil_append]
    have c7 : (left.take q).length + (left.drop (q + 1)).length < 17592186044416 := by rw [List.length_take, List.length_drop]; omega
    have ih := ev_l2At0 m (left.eraseIdx q) (out ++ [rd left (q : Int)]) (k % fct m) (by rw [List.length_eraseIdx_of_lt hq]; omega) (by omega) (Nat.mod_lt _ hp) (by rw [List.length_append, List.length_singleton]; omega)
    rw [unr, ← HQE.out, List.append_cons]
    refine Ev.step (f := fun K => (spec_l2Ways.f K (m : Int)).bind fun t802 => (if t802 = 0 then (none) else (if 0 ≤ (wrap64 (Int.tdiv (k : Int) t802)) then (if (wrap64 (Int.tdiv (k : Int) t802)) < (left.length : Int) then (if out.length < 17592186044416 then (if (wrap64 (Int.tdiv (k : Int) t802)) ≤ (left.length : Int) then ((spec_l1Own.f (left.take ((wrap64 (Int.tdiv (k : Int) t802)) : Int).toNat)).bind fun t811 => (if 0 ≤ (wrap64 ((wrap64 (Int.tdiv (k : Int) t802)) + 1)) then (if (wrap64 ((wrap64 (Int.tdiv (k : Int) t802)) + 1)) ≤ (left.length : Int) then ((some (left.drop ((wrap64 ((wrap64 (Int.tdiv (k : Int) t802)) + 1)) : Int).toNat : List Int)).bind fun y814 => (if t811.length + y814.length < 17592186044416 then (spec_l2At.l0 K (Int.tmod (k : Int) t802) (out ++ [rd left (wrap64 (Int.tdiv (k : Int) t802))]) (t811 ++ y814)) else (none))) else (none)) else (none))) else (none)) else (none)) else (none)) else (none))))
      (fun K => by simp only [spec_l2At.l0, c, e1.out, ↓reduceIte]) (Ev.bind (ev_l2Ways m (by omega)) ?_)
    simp only [if_neg n0, e2.out, e3.out, e4.out, c1, c2, c3, c4, c5, c6, own, c7, Int.toNat_natCast, Option.bind_some, ↓reduceIte]
    rw [← List.eraseIdx_eq_take_drop_succ]
    exact ih
theorem ev_l2At (n k : Nat) (h7 : n ≤ 7) (hk : k < fct n) : Ev (fun K => spec_l2At.f K (n : Int) (k : Int)) (unr n (iota 1 n) k) := by
  unfold spec_l2At.f
  refine Ev.bind (ev_l2Sorted n (by omega)) ?_
  have := ev_l2At0 n (iota 1 n) [] k (iota_length _ _) h7 hk (by simp; omega)
  rw [List.nil_append] at this
  exact this
theorem ev_l2Orders (n : Nat) (h7 : n ≤ 7) : Ev (fun k => spec_l2Orders.f k (n : Int)) (ords n) := by
  have hb := fct_le n h7
  have go : ∀ (m j : Nat), j + m = fct n → Ev (fun k => spec_l2Orders.l0 k (n : Int) ((List.range j).map (unr n (iota 1 n))) (j : Int)) (ords n) := by
    intro m
    induction m with
    | zero =>
      intro j hj
      have c : ¬ (j : Int) < (fct n : Int) := by omega
      obtain rfl : j = fct n := by omega
      refine Ev.step (f := fun k => (spec_l2Ways.f k (n : Int)).bind fun t824 => (if (fct n : Int) < t824 then ((spec_l2At.f k (n : Int) (fct n : Int)).bind fun t825 => (if ((List.range (fct n)).map (unr n (iota 1 n))).length < 5864062014805 then (spec_l2Orders.l0 k (n : Int) ((List.range (fct n)).map (unr n (iota 1 n)) ++ [t825]) (wrap64 ((fct n : Int) + 1))) else (none))) else (some ((List.range (fct n)).map (unr n (iota 1 n)))))) (fun k => by simp only [spec_l2Orders.l0]) (Ev.bind (ev_l2Ways n h7) ?_)
      simp only [c, ↓reduceIte]
      exact Ev.now _
    | succ m ih =>
      intro j hj
      have c : (j : Int) < (fct n : Int) := by omega
      have lim : ((List.range j).map (unr n (iota 1 n))).length < 5864062014805 := by rw [List.length_map, List.length_range]; omega
      have e := Aside0.mk (show wrap64 ((j : Int) + 1) = ((j + 1 : Nat) : Int) from wj (by omega))
      have nx := ih (j + 1) (by omega)
      rw [ords_take n j (by omega)] at nx
      refine Ev.step (f := fun k => (spec_l2Ways.f k (n : Int)).bind fun t824 => (if (j : Int) < t824 then ((spec_l2At.f k (n : Int) (j : Int)).bind fun t825 => (if ((List.range j).map (unr n (iota 1 n))).length < 5864062014805 then (spec_l2Orders.l0 k (n : Int) ((List.range j).map (unr n (iota 1 n)) ++ [t825]) ((j + 1 : Nat) : Int)) else (none))) else (some ((List.range j).map (unr n (iota 1 n)))))) (fun k => by simp only [spec_l2Orders.l0, e.out]) (Ev.bind (ev_l2Ways n h7) ?_)
      simp only [c, ↓reduceIte]
      refine Ev.bind (ev_l2At n j h7 (by omega)) ?_
      simp only [lim, ↓reduceIte]
      exact nx
  exact go (fct n) 0 (by omega)
theorem chk_of (n : Int) : ∀ (l pre : List Int), (∀ x ∈ l, 1 ≤ x ∧ x ≤ n) → (pre ++ l).Nodup → chk n pre l = true
  | [], _, _, _ => rfl
  | x :: t, pre, h, hn => by
    have hx := h x (by simp)
    have hnx : x ∉ pre := fun hp => by
      have := List.nodup_append.1 hn
      exact this.2.2 x hp x (by simp) rfl
    simp only [chk, Bool.and_eq_true, decide_eq_true_eq, Bool.not_eq_true', List.contains_eq_mem, decide_eq_false_iff_not]
    exact ⟨⟨⟨hx.1, hx.2⟩, hnx⟩, chk_of n t (pre ++ [x]) (fun y hy => h y (by simp [hy])) (by rw [List.append_assoc]; exact hn)⟩
theorem iota_nodup (n : Nat) : (iota 1 n).Nodup := by
  unfold iota
  rw [List.nodup_iff_pairwise_ne, List.pairwise_map]
  refine List.Pairwise.imp ?_ List.nodup_range
  intro a b hab h
  exact hab (by omega)
theorem iota_range (n : Nat) : ∀ x ∈ iota 1 n, 1 ≤ x ∧ x ≤ (n : Int) := by
  intro x hx
  obtain ⟨i, hi, rfl⟩ := List.mem_map.1 hx
  have := List.mem_range.1 hi
  omega
theorem ordB_of_perm {o : List Int} {n : Nat} (h1 : 1 ≤ n) (h7 : n ≤ 7) (p : o.Perm (iota 1 n)) : ordB o = true := by
  have hl : o.length = n := by rw [p.length_eq, iota_length]
  unfold ordB
  rw [hl, decide_eq_true h1, decide_eq_true h7]
  refine chk_of n o [] (fun x hx => iota_range n x (p.mem_iff.1 hx)) ?_
  rw [List.nil_append]
  exact p.symm.nodup (iota_nodup n)
/-! ### the best value over all orders -/
def Vn (o : List Int) : Int := vl o 14 ⟨#[]⟩
def pl (s : Int) : List (List Int) → Int → List Int → Int × List Int
  | [], best, out => (best, out)
  | o :: t, best, out => if s * Vn o > s * best then pl s t (Vn o) o else pl s t best out
def goodO (o : List Int) : Prop := duelB o ⟨#[]⟩ = true ∧ 0 < o.length
theorem Vn_bound {o : List Int} (h : goodO o) : -98 ≤ Vn o ∧ Vn o ≤ 98 := by
  have := vl_bound (duelB_facts h.1).1 14 (by decide) ⟨#[]⟩
  unfold Vn
  omega
theorem pl_bound (s : Int) : ∀ (L : List (List Int)) (best : Int) (out : List Int), (∀ o ∈ L, goodO o) → -98 ≤ best ∧ best ≤ 98 → -98 ≤ (pl s L best out).1 ∧ (pl s L best out).1 ≤ 98
  | [], best, out, _, h => h
  | o :: t, best, out, hg, h => by
    simp only [pl]
    split
    · exact pl_bound s t _ _ (fun x hx => hg x (List.mem_cons_of_mem _ hx)) (Vn_bound (hg o List.mem_cons_self))
    · exact pl_bound s t _ _ (fun x hx => hg x (List.mem_cons_of_mem _ hx)) h
theorem pl_mem (s : Int) : ∀ (L : List (List Int)) (best : Int) (out : List Int), (pl s L best out).2 = out ∨ (pl s L best out).2 ∈ L
  | [], best, out => .inl rfl
  | o :: t, best, out => by
    simp only [pl]
    split
    · rcases pl_mem s t (Vn o) o with h | h
      · exact .inr (by rw [h]; exact List.mem_cons_self)
      · exact .inr (List.mem_cons_of_mem _ h)
    · rcases pl_mem s t best out with h | h
      · exact .inl h
      · exact .inr (List.mem_cons_of_mem _ h)
theorem ords_good {n : Nat} (h1 : 1 ≤ n) (h5 : n ≤ 5) {o : List Int} (h : o ∈ ords n) : goodO o := by
  obtain ⟨p, hl⟩ := ords_mem h
  have ho := ordB_of_perm h1 (by omega) p
  refine ⟨?_, by omega⟩
  unfold duelB isBeg
  rw [ho, hl]
  have e : bs (⟨#[]⟩ : ByteArray) = [] := rfl
  have e2 : (⟨#[]⟩ : ByteArray).size = 0 := rfl
  simp only [e, e2, beg, Bool.true_and, Bool.and_eq_true, decide_eq_true_eq, Option.isSome_some, and_true]
  omega
theorem ev_farL (s : Int) (hs : s = 1 ∨ s = -1) : ∀ (L : List (List Int)) (best : List Int) (m : Int), (∀ o ∈ L, goodO o) → -98 ≤ m ∧ m ≤ 98 → Ev (fun k => farL (fun o => spec_l11Value.f k o (⟨#[]⟩ : ByteArray)) s L best (s * m)) ((pl s L m best).2, s * (pl s L m best).1)
  | [], best, m, _, _ => Ev.now _
  | o :: t, best, m, hg, hm => by
    have hgo := hg o List.mem_cons_self
    have hv := Vn_bound hgo
    have e : wrap64 (s * Vn o) = s * Vn o := by rcases hs with rfl | rfl <;> exact wr (by omega) (by omega)
    have hr : ∀ x ∈ t, goodO x := fun x hx => hg x (List.mem_cons_of_mem _ hx)
    simp only [farL, pl]
    refine Ev.bind (ev_l11Value o ⟨#[]⟩ hgo.1) ?_
    rw [show vl o 14 ⟨#[]⟩ = Vn o from rfl, e]
    by_cases hgt : s * Vn o > s * m
    · simp only [hgt, ↓reduceIte]
      exact ev_farL s hs t _ _ hr hv
    · simp only [hgt, ↓reduceIte]
      exact ev_farL s hs t _ _ hr hm
theorem ev_bdL (s : Int) (lt : Int → Int → Bool) (hlt : ∀ a b, lt a b = decide (s * a > s * b)) : ∀ (L : List (List Int)) (m : Int) (best : List Int), (∀ o ∈ L, goodO o) → Ev (fun k => bdL lt (fun o => impl_DuelValue.f k o (⟨#[]⟩ : ByteArray)) L false m best) (pl s L m best)
  | [], m, best, _ => Ev.now _
  | o :: t, m, best, hg => by
    have hgo := hg o List.mem_cons_self
    have hr : ∀ x ∈ t, goodO x := fun x hx => hg x (List.mem_cons_of_mem _ hx)
    have hv := ev_DuelValue o ⟨#[]⟩ (by decide)
    rw [if_pos hgo.1] at hv
    simp only [bdL, pl, show (0 < o.length) = True from eq_true hgo.2, ↓reduceIte]
    refine Ev.bind hv ?_
    rw [show vl o 14 ⟨#[]⟩ = Vn o from rfl]
    simp only [hlt, Bool.false_eq_true, false_or, decide_eq_true_eq]
    by_cases hgt : s * Vn o > s * m
    · simp only [hgt, ↓reduceIte]
      exact ev_bdL s lt hlt t _ _ hr
    · simp only [hgt, ↓reduceIte]
      exact ev_bdL s lt hlt t _ _ hr
theorem both_far (s : Int) (hs : s = 1 ∨ s = -1) (lt : Int → Int → Bool) (hlt : ∀ a b, lt a b = decide (s * a > s * b)) (n : Int) : ∃ r : Int × List Int × Bool, r.2.1.length ≤ 5 ∧ Ev (fun k => spec_l11Far.f k n s) r ∧ Ev (fun k => bduelF k lt n) r := by
  by_cases hn : 1 ≤ n ∧ n ≤ 5
  · obtain ⟨m, rfl⟩ : ∃ m : Nat, n = (m : Int) := ⟨n.toNat, by omega⟩
    have h1 : 1 ≤ m := by omega
    have h5 : m ≤ 5 := by omega
    have hlen := ords_len m
    have hfp := fct_pos m
    have hfl := fct_le m (by omega)
    have hall : ∀ o ∈ ords m, goodO o := fun o ho => ords_good h1 h5 ho
    have hl5 : ∀ o ∈ ords m, o.length ≤ 5 := fun o ho => by rw [(ords_mem ho).2]; exact h5
    have hO := ev_l2Orders m (by omega)
    have hA := ev_allOrders m h1 (by omega)
    generalize ords m = L at hlen hall hl5 hO hA
    cases L with
    | nil => simp at hlen; omega
    | cons o t =>
      have hgo := hall o List.mem_cons_self
      have hr : ∀ x ∈ t, goodO x := fun x hx => hall x (List.mem_cons_of_mem _ hx)
      have hv := Vn_bound hgo
      have e : wrap64 (s * Vn o) = s * Vn o := by rcases hs with rfl | rfl <;> exact wr (by omega) (by omega)
      have hb := pl_bound s t (Vn o) o hr hv
      have hcond : (0 < (o :: t).length ∧ (o :: t).length < 1000000) = True := eq_true ⟨by simp, by omega⟩
      refine ⟨((pl s t (Vn o) o).1, (pl s t (Vn o) o).2, true), ?_, ?_, ?_⟩
      · rcases pl_mem s t (Vn o) o with h | h
        · show (pl s t (Vn o) o).2.length ≤ 5
          rw [h]
          exact hl5 o List.mem_cons_self
        · exact hl5 _ (List.mem_cons_of_mem _ h)
      · unfold spec_l11Far.f
        have c1 : decide ((1 : Int) ≤ (m : Int)) = true := decide_eq_true hn.1
        have c2 : decide ((m : Int) ≤ 5) = true := decide_eq_true hn.2
        simp only [ev_l1In, c1, c2, Bool.and_true, Option.bind_some, ↓reduceIte]
        refine Ev.bind hO ?_
        simp only [hcond, ↓reduceIte]
        have e0 : rdL (o :: t) 0 = o := rfl
        simp only [e0, List.drop_succ_cons, List.drop_zero]
        refine Ev.bind (ev_l11Value o ⟨#[]⟩ hgo.1) ?_
        rw [show vl o 14 ⟨#[]⟩ = Vn o from rfl, e]
        refine Ev.bind (ev_farL s hs t o (Vn o) hr hv) ?_
        have e2 : wrap64 (s * (s * (pl s t (Vn o) o).1)) = (pl s t (Vn o) o).1 := by
          rcases hs with rfl | rfl
          · rw [Int.one_mul, Int.one_mul]; exact wr (by omega) (by omega)
          · rw [show (-1 : Int) * (-1 * (pl (-1) t (Vn o) o).1) = (pl (-1) t (Vn o) o).1 by omega]; exact wr (by omega) (by omega)
        simp only [e2]
        exact Ev.now _
      · unfold bduelF
        have c0 : ¬ ((m : Int) < 1 ∨ 5 < (m : Int)) := by omega
        simp only [c0, ↓reduceIte]
        refine Ev.bind hA ?_
        simp only [hcond, ↓reduceIte]
        have hvD := ev_DuelValue o ⟨#[]⟩ (by decide)
        rw [if_pos hgo.1] at hvD
        have hbd : Ev (fun k => bdL lt (fun o => impl_DuelValue.f k o (⟨#[]⟩ : ByteArray)) (o :: t) true 0 []) (pl s t (Vn o) o) := by
          simp only [bdL, show (0 < o.length) = True from eq_true hgo.2, ↓reduceIte, true_or]
          refine Ev.bind hvD ?_
          exact ev_bdL s lt hlt t _ _ hr
        exact Ev.bind hbd (Ev.now _)
  · refine ⟨(0, [], false), by simp, ?_, ?_⟩
    · unfold spec_l11Far.f
      have c : (decide ((1 : Int) ≤ n) && decide (n ≤ 5)) = false := by
        by_cases h1 : 1 ≤ n
        · rw [decide_eq_false (show ¬ n ≤ 5 by omega), Bool.and_false]
        · rw [decide_eq_false h1, Bool.false_and]
      simp only [ev_l1In, c, Option.bind_some, Bool.false_eq_true, ↓reduceIte]
      exact Ev.now _
    · unfold bduelF
      have c0 : n < 1 ∨ 5 < n := by omega
      simp only [c0, ↓reduceIte]
      exact Ev.now _
theorem ev_eqIntS_l0 (l : List Int) (hl : l.length < 9223372036854775807) (d : Nat) : ∀ j : Nat, j + d = l.length → Ev (fun k => laws_eqIntS.l0 k l l (j : Int)) true := by
  induction d with
  | zero =>
    intro j hj
    have c : ¬ (j : Int) < (l.length : Int) := by omega
    exact Ev.step (fun k => by simp only [laws_eqIntS.l0, c, ↓reduceIte] <;> rfl) (Ev.now _)
  | succ d ih =>
    intro j hj
    have c : (j : Int) < (l.length : Int) := by omega
    have c0 : 0 ≤ (j : Int) := by omega
    have e1 : wrap64 ((j : Int) + 1) = ((j + 1 : Nat) : Int) := wj (by omega)
    exact Ev.step (fun k => by simp only [laws_eqIntS.l0, c, c0, e1, ↓reduceIte] <;> rfl) (ih (j + 1) (by omega))
/-- A list is equal to itself. -/
theorem ev_eqIntS (l : List Int) (hl : l.length < 9223372036854775807) : Ev (fun k => laws_eqIntS.f k l l) true := by
  simp only [laws_eqIntS.f, ↓reduceIte]
  exact ev_eqIntS_l0 l hl l.length 0 (by omega)
/-! ### marks are laid, and held -/
theorem ev_markIntS_l0 (l : List Int) (b : Int) (hb0 : 0 ≤ b) (hb : b ≤ 4000000000) (hl : l.length ≤ 4000000000) (d : Nat) : ∀ j : Nat, j + d = l.length → Ev (fun k => laws_markIntS.l0 k (iota b j ++ l.drop j) (b + (j : Int)) (j : Int)) (b + (l.length : Int), iota b l.length) := by
  induction d with
  | zero =>
    intro j hj
    obtain rfl : j = l.length := by omega
    rw [List.drop_of_length_le (Nat.le_refl _), List.append_nil]
    have c : ¬ (l.length : Int) < ((iota b l.length).length : Int) := by rw [iota_length]; omega
    exact Ev.step (f := fun _ => some (b + (l.length : Int), iota b l.length)) (fun k => by simp only [laws_markIntS.l0, c, ↓reduceIte]) (Ev.now _)
  | succ d ih =>
    intro j hj
    have c : (j : Int) < ((iota b j ++ l.drop j).length : Int) := by rw [List.length_append, iota_length, List.length_drop]; omega
    have c0 : 0 ≤ (j : Int) := by omega
    have e1 : wrap64 ((j : Int) + 1) = ((j + 1 : Nat) : Int) := wj (by omega)
    have e2 : wrap64 (b + (j : Int) + 1) = b + ((j + 1 : Nat) : Int) := by rw [wr (by omega) (by omega)]; omega
    refine Ev.step (fun k => ?_) (ih (j + 1) (by omega))
    simp only [laws_markIntS.l0, c, c0, e1, e2, Int.toNat_natCast, ↓reduceIte]
    rw [set_iota b l j (by omega)]
theorem ev_markIntS (l : List Int) (b : Int) (hb0 : 0 ≤ b) (hb : b ≤ 4000000000) (hl : l.length ≤ 4000000000) : Ev (fun k => laws_markIntS.f k l b) (b + (l.length : Int), iota b l.length) := by
  have := ev_markIntS_l0 l b hb0 hb hl l.length 0 (by omega)
  simp only [List.drop_zero, iota, List.range_zero, List.map_nil, List.nil_append, Int.natCast_zero, Int.add_zero] at this
  exact this
theorem ev_heldIntS_l0 (n : Nat) (b : Int) (hb0 : 0 ≤ b) (hb : b ≤ 4000000000) (hl : n ≤ 4000000000) (d : Nat) : ∀ j : Nat, j + d = n → Ev (fun k => laws_heldIntS.l0 k (iota b n) (b + (j : Int)) (j : Int)) (b + (n : Int)) := by
  induction d with
  | zero =>
    intro j hj
    obtain rfl : j = n := by omega
    have c : ¬ (j : Int) < ((iota b j).length : Int) := by rw [iota_length]; omega
    exact Ev.step (f := fun _ => some (b + (j : Int))) (fun k => by simp only [laws_heldIntS.l0, c, ↓reduceIte]) (Ev.now _)
  | succ d ih =>
    intro j hj
    have c : (j : Int) < ((iota b n).length : Int) := by rw [iota_length]; omega
    have c0 : 0 ≤ (j : Int) := by omega
    have e1 : wrap64 ((j : Int) + 1) = ((j + 1 : Nat) : Int) := wj (by omega)
    have e2 : wrap64 (b + (j : Int) + 1) = b + ((j + 1 : Nat) : Int) := by rw [wr (by omega) (by omega)]; omega
    have e3 := rd_iota b n j (by omega)
    refine Ev.step (fun k => ?_) (ih (j + 1) (by omega))
    simp only [laws_heldIntS.l0, c, c0, e3, e1, e2, ↓reduceIte]
theorem ev_heldIntS (n : Nat) (b : Int) (hb0 : 0 ≤ b) (hb : b ≤ 4000000000) (hl : n ≤ 4000000000) : Ev (fun k => laws_heldIntS.f k (iota b n) b) (b + (n : Int)) := by
  have := ev_heldIntS_l0 n b hb0 hb hl n 0 (by omega)
  simp only [Int.natCast_zero, Int.add_zero] at this
  exact this
theorem FnExactLeastDuel : laws_FnExactLeastDuel.Pure := by
  intro n _
  obtain ⟨⟨r1, r, r3⟩, hr, hS, hI⟩ := both_far (-1) (by decide) (fun a b => decide (a < b)) (fun a b => by rw [decide_eq_decide]; omega) n
  have h1 : Ev (fun k => spec_LeastDuel.f k n) (r1, r, r3) := by
    unfold spec_LeastDuel.f
    exact Ev.bind hS (Ev.now _)
  obtain ⟨K1, h1⟩ := h1
  have hI2 : Ev (fun k => impl_LeastDuel.f k n) (r1, r, r3) := hI
  clear hI
  obtain ⟨K2, h2⟩ := hI2
  have hr' : r.length ≤ 5 := hr
  obtain ⟨K4, h4⟩ := ev_eqIntS r (by omega)
  obtain ⟨K7, h7⟩ := ev_markIntS r 1 (by omega) (by omega) (by omega)
  obtain ⟨K8, h8⟩ := ev_heldIntS r.length 1 (by omega) (by omega) (by omega)
  have n2 : ¬ (1 + (r.length : Int)) < 0 := by omega
  dsimp only at h1 h2 h4 h7 h8
  refine ⟨K1 + K2 + K4 + K7 + K8 + 10, ?_⟩
  simp only [laws_FnExactLeastDuel.f]
  repeat first
    | with_reducible rfl
    | (with_reducible refine bind_of (h1 _ (by omega)) ?_; try dsimp only)
    | (with_reducible refine bind_of (h2 _ (by omega)) ?_; try dsimp only)
    | (with_reducible refine bind_of (h4 _ (by omega)) ?_; try dsimp only)
    | (with_reducible refine bind_of (h7 _ (by omega)) ?_; try dsimp only)
    | (with_reducible refine bind_of (h8 _ (by omega)) ?_; try dsimp only)
    | rw [if_pos rfl]
    | rw [bne_self_eq_false]
    | rw [if_neg Bool.false_ne_true]
    | rw [if_neg n2]
    | simp only [laws_FnExactLeastDuel.j0]
    | simp only [laws_FnExactLeastDuel.j1]

end Go.Proofs.Ytgilgogjffnodaa.Pure
