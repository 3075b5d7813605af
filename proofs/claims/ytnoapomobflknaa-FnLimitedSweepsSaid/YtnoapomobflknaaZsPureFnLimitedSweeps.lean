/- FnLimitedSweeps: sweeps of the limits 1, 2 and n are the order, what bubbles, and the sweep, and limited sweeps sort in as many as are told. -/
import Derived.Test.YtnoapomobflknaaZsXs13
import Derived.Test.YtnoapomobflknaaZsXs6
import Derived.Test.YtnoapomobflknaaZsXs11
import Derived.Test.YtnoapomobflknaaZsXs7
import Derived.Test.YtnoapomobflknaaZsXs12
import Derived.Test.YtnoapomobflknaaZsXs4
import Derived.Test.YtnoapomobflknaaZsXs9
import Derived.Test.YtnoapomobflknaaZsXs3
import Derived.Test.YtnoapomobflknaaZsXsHlimited
import Derived.Test.YtnoapomobflknaaZsXsHsweep
import Derived.Test.YtnoapomobflknaaZsXs1
import Derived.Test.YtnoapomobflknaaZsXsHclone
import Derived.Test.YtnoapomobflknaaZsXs2
import Derived.Test.YtnoapomobflknaaZsXs10
import Derived.Test.YtnoapomobflknaaZsXs8
import Derived.Test.YtnoapomobflknaaZsXs5
import Derived.Test.YtnoapomobflknaaZsXsHspoilt
import Derived.Test.YtnoapomobflknaaZsPk
import Derived.Laws.BitsLemmas
import Derived.OpenShut
set_option linter.unusedVariables false
set_option linter.unusedSimpArgs false
namespace Go.Proofs.Ytnoapomobflknaa.Pure
open Go.RowKit Go.Proofs.Ytnoapomobflknaa.Xs Go.Proofs.YtnoapomobflknaaW.PrintWords Go.Proofs.YtnoapomobflknaaW.PrintLast Go.Proofs.Ytnoapomobflknaa.Pk

theorem ev_l1In' (a b c : Int) : spec_l1In.f a b c = some (decide (b ≤ a) && decide (a ≤ c)) := by
  unfold spec_l1In.f
  by_cases h : b ≤ a
  · rw [if_pos h, decide_eq_true h, Bool.true_and]
  · rw [if_neg h, decide_eq_false h, Bool.false_and]
/-! ### is a list an order? -/
theorem ev_l1Has_l0 (l : List Int) (x : Int) (hl : l.length < 9223372036854775807) (d : Nat) : ∀ j : Nat, j + d = l.length → Ev (fun k => spec_l1Has.l0 k l x (j : Int)) ((l.drop j).contains x) := by
  induction d with
  | zero =>
    intro j hj
    have c : ¬ (j : Int) < (l.length : Int) := by omega
    rw [List.drop_of_length_le (by omega)]
    exact Ev.step (fun k => by simp only [spec_l1Has.l0, c, ↓reduceIte] <;> rfl) (Ev.now _)
  | succ d ih =>
    intro j hj
    have c : (j : Int) < (l.length : Int) := by omega
    have c0 : 0 ≤ (j : Int) := by omega
    have e1 : wrap64 ((j : Int) + 1) = ((j + 1 : Nat) : Int) := wj (by omega)
    rw [rd_drop l j (by omega), List.contains_cons]
    by_cases h : rd l (j : Int) = x
    · have : (x == rd l (j : Int)) = true := by rw [h]; exact beq_self_eq_true x
      rw [this, Bool.true_or]
      exact Ev.step (fun k => by simp only [spec_l1Has.l0, c, c0, h, ↓reduceIte] <;> rfl) (Ev.now _)
    · have : (x == rd l (j : Int)) = false := beq_eq_false_iff_ne.2 (fun e => h e.symm)
      rw [this, Bool.false_or]
      exact Ev.step (fun k => by simp only [spec_l1Has.l0, c, c0, h, e1, ↓reduceIte]) (ih (j + 1) (by omega))
theorem ev_l1Has (l : List Int) (x : Int) (hl : l.length < 9223372036854775807) : Ev (fun k => spec_l1Has.f k l x) (l.contains x) := by
  have := ev_l1Has_l0 l x hl l.length 0 (by omega)
  rw [List.drop_zero] at this
  exact this
theorem ev_l2Order_l0 (l : List Int) (hl : l.length ≤ 7) (d : Nat) : ∀ j : Nat, j + d = l.length → Ev (fun k => spec_l2Order.l0 k l (j : Int)) (chk l.length (l.take j) (l.drop j)) := by
  induction d with
  | zero =>
    intro j hj
    have c : ¬ (j : Int) < (l.length : Int) := by omega
    rw [List.drop_of_length_le (by omega)]
    exact Ev.step (fun k => by simp only [spec_l2Order.l0, c, ↓reduceIte] <;> rfl) (Ev.now _)
  | succ d ih =>
    intro j hj
    have c : (j : Int) < (l.length : Int) := by omega
    have c0 : 0 ≤ (j : Int) := by omega
    have c1 : (j : Int) ≤ (l.length : Int) := by omega
    have e1 : wrap64 ((j : Int) + 1) = ((j + 1 : Nat) : Int) := wj (by omega)
    rw [rd_drop l j (by omega), chk, ← take_succ l j (by omega)]
    by_cases h : (decide (1 ≤ rd l (j : Int)) && decide (rd l (j : Int) ≤ (l.length : Int))) = true
    · rw [h, Bool.true_and]
      refine Ev.step (f := fun k => (spec_l1Has.f k (l.take j) (rd l (j : Int))).bind fun t => if t = true then some false else spec_l2Order.l0 k l ((j + 1 : Nat) : Int)) (fun k => by simp only [spec_l2Order.l0, c, c0, c1, ev_l1In', h, e1, Option.bind_some, Int.toNat_natCast, ↓reduceIte]) ?_
      refine Ev.bind (ev_l1Has (l.take j) _ (by rw [List.length_take]; omega)) ?_
      cases hc : (l.take j).contains (rd l (j : Int)) with
      | true =>
        simp only [↓reduceIte, Bool.not_true, Bool.false_and]
        exact Ev.now _
      | false =>
        simp only [Bool.false_eq_true, ↓reduceIte, Bool.not_false, Bool.true_and]
        exact ih (j + 1) (by omega)
    · have h' := Bool.eq_false_iff.2 h
      rw [h', Bool.false_and, Bool.false_and]
      exact Ev.step (fun k => by simp only [spec_l2Order.l0, c, c0, ev_l1In', h', Option.bind_some, Bool.false_eq_true, ↓reduceIte] <;> rfl) (Ev.now _)
theorem ev_l2Order (l : List Int) : Ev (fun k => spec_l2Order.f k l) (ordB l) := by
  unfold spec_l2Order.f ordB
  simp only [ev_l1In', Option.bind_some]
  by_cases h1 : 1 ≤ l.length
  · have g1 : (1 : Int) ≤ (l.length : Int) := by omega
    by_cases h7 : l.length ≤ 7
    · have g7 : (l.length : Int) ≤ 7 := by omega
      have := ev_l2Order_l0 l h7 l.length 0 (by omega)
      simp only [h1, h7, g1, g7, decide_true, Bool.and_true, Bool.true_and, ↓reduceIte]
      rw [List.take_zero, List.drop_zero] at this
      exact this
    · have g7 : ¬ (l.length : Int) ≤ 7 := by omega
      simp only [h7, g7, decide_false, Bool.and_false, Bool.false_and, Bool.false_eq_true, ↓reduceIte]
      exact Ev.now _
  · have g1 : ¬ (1 : Int) ≤ (l.length : Int) := by omega
    simp only [h1, g1, decide_false, Bool.false_and, Bool.false_eq_true, ↓reduceIte]
    exact Ev.now _
theorem ev_Index_l0 (l : List Int) (x : Int) (hl : l.length < 9223372036854775807) (d : Nat) : ∀ j : Nat, j + d = l.length → ∃ r : Int, Ev (fun k => slices_Index_int_int.l0 k l x (l.length : Int) (j : Int)) r ∧ decide (r ≥ 0) = (l.drop j).contains x := by
  induction d with
  | zero =>
    intro j hj
    have c : ¬ (j : Int) < (l.length : Int) := by omega
    rw [List.drop_of_length_le (by omega)]
    exact ⟨-1, Ev.step (fun k => by simp only [slices_Index_int_int.l0, c, ↓reduceIte] <;> rfl) (Ev.now _), rfl⟩
  | succ d ih =>
    intro j hj
    have c : (j : Int) < (l.length : Int) := by omega
    have c0 : 0 ≤ (j : Int) := by omega
    have e1 : wrap64 ((j : Int) + 1) = ((j + 1 : Nat) : Int) := wj (by omega)
    rw [rd_drop l j (by omega), List.contains_cons]
    by_cases h : x = rd l (j : Int)
    · have : (x == rd l (j : Int)) = true := beq_iff_eq.2 h
      rw [this, Bool.true_or]
      exact ⟨j, Ev.step (fun k => by simp only [slices_Index_int_int.l0, c, c0, ↓reduceIte]; rw [if_pos h]) (Ev.now _), by simp⟩
    · have : (x == rd l (j : Int)) = false := beq_eq_false_iff_ne.2 h
      rw [this, Bool.false_or]
      obtain ⟨r, hr, hd⟩ := ih (j + 1) (by omega)
      exact ⟨r, Ev.step (fun k => by simp only [slices_Index_int_int.l0, c, c0, h, e1, ↓reduceIte]) hr, hd⟩
theorem ev_Contains (l : List Int) (x : Int) (hl : l.length < 9223372036854775807) : Ev (fun k => slices_Contains_int_int.f k l x) (l.contains x) := by
  obtain ⟨r, hr, hd⟩ := ev_Index_l0 l x hl l.length 0 (by omega)
  rw [List.drop_zero] at hd
  unfold slices_Contains_int_int.f slices_Index_int_int.f
  refine Ev.bind hr ?_
  rw [hd]
  exact Ev.now _
theorem ev_isOrder_l0 (l : List Int) (hl : l.length ≤ 7) (d : Nat) : ∀ j : Nat, j + d = l.length → Ev (fun k => impl_isOrder.l0 k l l (l.length : Int) (j : Int)) (chk l.length (l.take j) (l.drop j)) := by
  induction d with
  | zero =>
    intro j hj
    have c : ¬ (j : Int) < (l.length : Int) := by omega
    rw [List.drop_of_length_le (by omega)]
    exact Ev.step (fun k => by simp only [impl_isOrder.l0, c, ↓reduceIte] <;> rfl) (Ev.now _)
  | succ d ih =>
    intro j hj
    have c : (j : Int) < (l.length : Int) := by omega
    have c0 : 0 ≤ (j : Int) := by omega
    have c1 : (j : Int) ≤ (l.length : Int) := by omega
    have e1 : wrap64 ((j : Int) + 1) = ((j + 1 : Nat) : Int) := wj (by omega)
    rw [rd_drop l j (by omega), chk, ← take_succ l j (by omega)]
    by_cases h1 : 1 ≤ rd l (j : Int)
    · have g1 : ¬ rd l (j : Int) < 1 := by omega
      by_cases h2 : rd l (j : Int) ≤ (l.length : Int)
      · have g2 : ¬ rd l (j : Int) > (l.length : Int) := by omega
        simp only [h1, h2, decide_true, Bool.true_and]
        refine Ev.step (f := fun k => (slices_Contains_int_int.f k (l.take j) (rd l (j : Int))).bind fun t => if t = true then some false else impl_isOrder.l0 k l l (l.length : Int) ((j + 1 : Nat) : Int)) (fun k => by simp only [impl_isOrder.l0, c, c0, c1, g1, g2, e1, Int.toNat_natCast, ↓reduceIte]) ?_
        refine Ev.bind (ev_Contains (l.take j) _ (by rw [List.length_take]; omega)) ?_
        cases hc : (l.take j).contains (rd l (j : Int)) with
        | true =>
          simp only [↓reduceIte, Bool.not_true, Bool.false_and]
          exact Ev.now _
        | false =>
          simp only [Bool.false_eq_true, ↓reduceIte, Bool.not_false, Bool.true_and]
          exact ih (j + 1) (by omega)
      · have g2 : rd l (j : Int) > (l.length : Int) := by omega
        simp only [h2, decide_false, Bool.and_false, Bool.false_and]
        exact Ev.step (fun k => by simp only [impl_isOrder.l0, c, c0, g1, g2, ↓reduceIte] <;> rfl) (Ev.now _)
    · have g1 : rd l (j : Int) < 1 := by omega
      simp only [h1, decide_false, Bool.false_and]
      exact Ev.step (fun k => by simp only [impl_isOrder.l0, c, c0, g1, ↓reduceIte] <;> rfl) (Ev.now _)
theorem ev_isOrder (l : List Int) : Ev (fun k => impl_isOrder.f k l) (ordB l) := by
  unfold impl_isOrder.f ordB
  by_cases h1 : 1 ≤ l.length
  · have g1 : ¬ (l.length : Int) < 1 := by omega
    by_cases h7 : l.length ≤ 7
    · have g7 : ¬ (l.length : Int) > 7 := by omega
      have := ev_isOrder_l0 l h7 l.length 0 (by omega)
      simp only [h1, h7, g1, g7, decide_true, decide_false, Bool.true_and, ↓reduceIte]
      refine Ev.step (fun k => by simp only [impl_isOrder.j0, Bool.false_eq_true, ↓reduceIte] <;> rfl) ?_
      rw [List.take_zero, List.drop_zero] at this
      exact this
    · have g7 : (l.length : Int) > 7 := by omega
      simp only [h7, g1, g7, decide_true, decide_false, Bool.and_false, Bool.false_and, ↓reduceIte]
      exact Ev.step (fun k => by simp only [impl_isOrder.j0, ↓reduceIte] <;> rfl) (Ev.now _)
  · have g1 : (l.length : Int) < 1 := by omega
    simp only [h1, g1, decide_false, Bool.false_and, ↓reduceIte]
    exact Ev.step (fun k => by simp only [impl_isOrder.j0, ↓reduceIte] <;> rfl) (Ev.now _)
theorem ev_isSize (a : Int) : impl_isSize.f a = some (decide (1 ≤ a) && decide (a ≤ 7)) := by
  unfold impl_isSize.f
  by_cases h : 1 ≤ a
  · rw [if_pos h, decide_eq_true h, Bool.true_and]
  · rw [if_neg h, decide_eq_false h, Bool.false_and]
theorem ev_limits (d : Int) : spec_l10Limit.f d = some (decide (1 ≤ d) && decide (d ≤ 7)) ∧ impl_isLimit.f d = some (decide (1 ≤ d) && decide (d ≤ 7)) := by
  unfold spec_l10Limit.f impl_isLimit.f
  rw [ev_l1In', ev_isSize]
  exact ⟨rfl, rfl⟩
/-! ### texts out of numbers -/
theorem son_append (x y : List Int) : strOfNums (x ++ y) = strOfNums x ++ strOfNums y := by
  apply ByteArray.ext
  simp [strOfNums]
theorem son_79 : (⟨#[79]⟩ : ByteArray) = strOfNums [79] := rfl
theorem son_73 : (⟨#[73]⟩ : ByteArray) = strOfNums [73] := rfl
theorem son_size (x : List Int) : (strOfNums x).size = x.length := by simp [strOfNums, ByteArray.size]
theorem bs_son (x : List Int) (h : ∀ c ∈ x, c = 73 ∨ c = 79) : bs (strOfNums x) = x := by
  unfold bs strOfNums
  simp only [List.map_map]
  refine (List.map_congr_left ?_).trans (List.map_id x)
  intro c hc
  rcases h c hc with rfl | rfl <;> rfl
/-! ### the word of a limited sweep -/
theorem l10Word_l2 (st : List Int) (hst : st.length ≤ 100) (n : Nat) : ∀ (j : Nat) (out : List Int), j + n = st.length → out.length + n ≤ 100 → Ev (fun k => spec_l10Word.l2 k (strOfNums out) st (j : Int)) (strOfNums (out ++ List.replicate n 79)) := by
  induction n with
  | zero =>
    intro j out hj ho
    have c : ¬ (j : Int) < (st.length : Int) := by omega
    rw [List.replicate_zero, List.append_nil]
    exact Ev.step (f := fun _ => some (strOfNums out)) (fun k => by simp only [spec_l10Word.l2, c, ↓reduceIte]) (Ev.now _)
  | succ n ih =>
    intro j out hj ho
    have c : (j : Int) < (st.length : Int) := by omega
    have s : (strOfNums out).size + 1 ≤ 9223372036854775807 := by rw [son_size]; omega
    have e1 := Aside0.mk (show wrap64 ((j : Int) + 1) = ((j + 1 : Nat) : Int) from wj (by omega))
    have h := ih (j + 1) (out ++ [79]) (by omega) (by simp; omega)
    rw [List.append_assoc, show [79] ++ List.replicate n (79 : Int) = List.replicate (n + 1) 79 from by rw [List.replicate_succ]; rfl] at h
    refine Ev.step (fun k => ?_) h
    simp only [spec_l10Word.l2, c, s, e1.out, ↓reduceIte]
    rw [son_append, son_79]
/-- One more is pushed. -/
theorem l10Word_push (l : List Int) (d : Int) (i : Nat) (st out : List Int) (hl : l.length ≤ 7) (hi : i < l.length) (ho : out.length ≤ 100) (hst : st.length ≤ 100) (hd1 : 1 ≤ d)
    (hs : ∀ t x, st = t ++ [x] → ¬ x < rd l (i : Int)) (hd : ¬ (st.length : Int) = d) {r : ByteArray} (h : Ev (fun k => spec_l10Word.l0 k l d (strOfNums (out ++ [73])) (st ++ [rd l (i : Int)]) ((i + 1 : Nat) : Int)) r) : Ev (fun k => spec_l10Word.l1 k l d (strOfNums out) st (i : Int)) r := by
  have ci : (i : Int) < (l.length : Int) := by omega
  have c0i : 0 ≤ (i : Int) := by omega
  have s : (strOfNums out).size + 1 ≤ 9223372036854775807 := by rw [son_size]; omega
  have lim : st.length < 17592186044416 := by omega
  have e1 := Aside0.mk (show wrap64 ((i : Int) + 1) = ((i + 1 : Nat) : Int) from wj (by omega))
  refine Ev.step (fun k => ?_) h
  rw [son_append, ← son_73]
  rcases snoc_cases st with rfl | ⟨st, x, rfl⟩
  · have g0 : ¬ (([] : List Int).length : Int) > 0 := by simp
    simp only [spec_l10Word.l1, g0, ci, c0i, s, lim, e1.out, ↓reduceIte]
  · have hlen : (st ++ [x]).length = st.length + 1 := by simp
    have tp : ((st ++ [x]).length : Int) > 0 := by rw [hlen]; omega
    have et := Aside0.mk (show wrap64 (((st ++ [x]).length : Int) - 1) = (st.length : Int) from by rw [hlen] at hst ⊢; rw [wr (by omega) (by omega)]; omega)
    have etop : rd (st ++ [x]) (st.length : Int) = x := by rw [rd_nat]; simp
    have t0 : 0 ≤ (st.length : Int) := by omega
    have t1 : (st.length : Int) < ((st ++ [x]).length : Int) := by rw [hlen]; omega
    have hx := hs st x rfl
    simp only [spec_l10Word.l1, tp, et.out, t0, t1, etop, ci, c0i, hx, hd, s, lim, e1.out, ↓reduceIte]
/-- One comes out. -/
theorem l10Word_pop (l : List Int) (d : Int) (i : Nat) (st out : List Int) (x : Int) (hl : l.length ≤ 7) (hi : i < l.length) (ho : out.length ≤ 100) (hst : st.length ≤ 100)
    (hx : x < rd l (i : Int) ∨ ((st ++ [x]).length : Int) = d) {r : ByteArray} (h : Ev (fun k => spec_l10Word.l1 k l d (strOfNums (out ++ [79])) st (i : Int)) r) : Ev (fun k => spec_l10Word.l1 k l d (strOfNums out) (st ++ [x]) (i : Int)) r := by
  have ci : (i : Int) < (l.length : Int) := by omega
  have c0i : 0 ≤ (i : Int) := by omega
  have s : (strOfNums out).size + 1 ≤ 9223372036854775807 := by rw [son_size]; omega
  refine Ev.step (fun k => ?_) h
  rw [son_append, ← son_79]
  have hlen : (st ++ [x]).length = st.length + 1 := by simp
  have tp : ((st ++ [x]).length : Int) > 0 := by rw [hlen]; omega
  have et := Aside0.mk (show wrap64 (((st ++ [x]).length : Int) - 1) = (st.length : Int) from by rw [hlen]; rw [wr (by omega) (by omega)]; omega)
  have etop : rd (st ++ [x]) (st.length : Int) = x := by rw [rd_nat]; simp
  have t0 : 0 ≤ (st.length : Int) := by omega
  have t1 : (st.length : Int) < ((st ++ [x]).length : Int) := by rw [hlen]; omega
  have t2 : (st.length : Int) ≤ ((st ++ [x]).length : Int) := by rw [hlen]; omega
  have etake : (st ++ [x]).take ((st.length : Int)).toNat = st := by rw [Int.toNat_natCast]; simp
  by_cases hq : x < rd l (i : Int)
  · simp only [spec_l10Word.l1, tp, et.out, t0, t1, t2, etop, ci, c0i, hq, s, etake, ↓reduceIte]
  · have hd := hx.resolve_left hq
    simp only [spec_l10Word.l1, tp, et.out, t0, t1, t2, etop, ci, c0i, hq, s, etake, ↓reduceIte]
    rw [if_pos hd]
/-- What lies deeper is greater. -/
def Falls (st : List Int) : Prop := st.Pairwise fun a b => b ≤ a
theorem l10Word_main (l : List Int) (d : Int) (hl : l.length ≤ 7) (hd1 : 1 ≤ d) (m : Nat) : ∀ (i : Nat) (st out : List Int), i + m = l.length → Falls st → out.length + st.length + 2 * m ≤ 100 → (st.length : Int) ≤ d →
    Ev (fun k => spec_l10Word.l0 k l d (strOfNums out) st (i : Int)) (strOfNums (lw d (l.drop i) st.reverse out)) := by
  induction m with
  | zero =>
    intro i st out hi hf ho hst
    have c : ¬ (i : Int) < (l.length : Int) := by omega
    have h := l10Word_l2 st (by omega) st.length 0 out (by omega) (by omega)
    rw [List.drop_of_length_le (by omega)]
    unfold lw
    rw [List.length_reverse]
    exact Ev.step (fun k => by simp only [spec_l10Word.l0, c, ↓reduceIte] <;> rfl) h
  | succ m ih =>
    intro i st out hi hf ho hst
    have ci : (i : Int) < (l.length : Int) := by omega
    refine Ev.step (f := fun k => spec_l10Word.l1 k l d (strOfNums out) st (i : Int)) (fun k => by simp only [spec_l10Word.l0, ci, ↓reduceIte]) ?_
    rw [rd_drop l i (by omega)]
    have up : ∀ (st out : List Int), Falls st → out.length + st.length + 2 * m + 2 ≤ 100 → (st.length : Int) < d → (∀ t x, st = t ++ [x] → ¬ x < rd l (i : Int)) → Ev (fun k => spec_l10Word.l1 k l d (strOfNums out) st (i : Int)) (strOfNums (lw d (l.drop (i + 1)) (rd l (i : Int) :: st.reverse) (out ++ [73]))) := by
      intro st out hf ho hst hs
      have h := ih (i + 1) (st ++ [rd l (i : Int)]) (out ++ [73]) (by omega) (by
        refine List.pairwise_append.2 ⟨hf, List.pairwise_singleton _ _, ?_⟩
        intro a ha b hb
        rw [List.mem_singleton] at hb
        subst hb
        rcases snoc_cases st with rfl | ⟨t, x, rfl⟩
        · simp at ha
        · have hx := hs t x rfl
          rcases List.mem_append.1 ha with ha | ha
          · have := (List.pairwise_append.1 hf).2.2 a ha x (by simp)
            omega
          · rw [List.mem_singleton] at ha
            omega) (by simp; omega) (by simp; omega)
      rw [List.reverse_append, List.reverse_singleton, List.singleton_append] at h
      exact l10Word_push l d i st out hl (by omega) (by omega) (by omega) hd1 hs (by omega) h
    have go : ∀ (n : Nat) (st out : List Int), st.length = n → Falls st → out.length + st.length + 2 * m + 2 ≤ 100 → (st.length : Int) ≤ d → Ev (fun k => spec_l10Word.l1 k l d (strOfNums out) st (i : Int)) (strOfNums (lw d (rd l (i : Int) :: l.drop (i + 1)) st.reverse out)) := by
      intro n
      induction n with
      | zero =>
        intro st out hn hf ho hst
        obtain rfl : st = [] := List.length_eq_zero_iff.1 hn
        have := up [] out hf ho (by simp; omega) (by intro t x h; simp at h)
        rw [List.reverse_nil, lw_push d _ _ [] out (by intro x t h; cases h) (by simp; omega)]
        exact this
      | succ n ihn =>
        intro st out hn hf ho hst
        rcases snoc_cases st with rfl | ⟨t, x, rfl⟩
        · simp at hn
        · have hlen : (t ++ [x]).length = t.length + 1 := by simp
          rw [hlen] at hn ho hst
          have hft : Falls t := (List.pairwise_append.1 hf).1
          have er : (t ++ [x]).reverse = x :: t.reverse := by simp
          rw [er]
          by_cases hx : x < rd l (i : Int)
          · rw [lw_pop d _ x _ t.reverse out hx]
            exact l10Word_pop l d i t out x hl (by omega) (by omega) (by omega) (.inl hx) (ihn t (out ++ [79]) (by omega) hft (by simp; omega) (by omega))
          · by_cases hd : ((t.length + 1 : Nat) : Int) = d
            · rw [lw_full d _ x _ t.reverse out hx (by simp only [List.length_cons, List.length_reverse]; exact hd)]
              refine l10Word_pop l d i t out x hl (by omega) (by omega) (by omega) (.inr (by rw [hlen]; exact hd)) ?_
              refine up t (out ++ [79]) hft (by simp; omega) (by omega) ?_
              intro t' y hy
              subst hy
              have := (List.pairwise_append.1 hf).2.2 y (by simp) x (by simp)
              omega
            · have := up (t ++ [x]) out hf (by rw [hlen]; omega) (by rw [hlen]; omega) (by
                intro t' y hy
                have := List.append_inj' hy rfl
                have h2 := this.2
                simp only [List.cons.injEq, and_true] at h2
                omega)
              rw [er] at this
              rw [lw_push d _ _ (x :: t.reverse) out (by intro y u hy; injection hy with a b; rw [← a]; exact hx) (by simp only [List.length_cons, List.length_reverse]; exact hd)]
              exact this
    exact go st.length st out rfl hf (by omega) hst
theorem lw_len (d : Int) (hd : 1 ≤ d) : ∀ (l st out : List Int), (lw d l st out).length = out.length + st.length + 2 * l.length := by
  have hp : ∀ (n : Int) (st : List Int), (lwPop n st).1 + (lwPop n st).2.length = st.length := by
    intro n st
    induction st with
    | nil => rfl
    | cons x t ih =>
      simp only [lwPop]
      split
      · simp only [List.length_cons]; omega
      · simp
  intro l
  induction l with
  | nil => intro st out; simp [lw]
  | cons n rest ih =>
    intro st out
    have := hp n st
    simp only [lw]
    split
    · rename_i h
      rw [ih]
      simp only [List.length_append, List.length_cons, List.length_replicate, List.length_tail, List.length_nil]
      omega
    · rw [ih]
      simp only [List.length_append, List.length_cons, List.length_replicate, List.length_nil]
      omega
theorem ev_l10Word (l : List Int) (d : Int) (hl : l.length ≤ 7) (hd1 : 1 ≤ d) : Ev (fun k => spec_l10Word.f k l d) (strOfNums (lw d l [] [])) := by
  have := l10Word_main l d hl hd1 l.length 0 [] [] (by omega) List.Pairwise.nil (by simp; omega) (by simp; omega)
  exact this
/-! ### a word is run -/
/-- Behind signs: from numbers that are left, the stack (its top first) and what has come out. -/
def runL : List Int → List Int → List Int → List Int → Option (List Int)
  | [], _, _, out => some out
  | c :: t, rest, st, out => if c = 73 then (match rest with | [] => none | x :: r => runL t r (x :: st) out) else (match st with | [] => none | x :: s => runL t rest s (out ++ [x]))
theorem run_both (l : List Int) (w : ByteArray) (hl : l.length ≤ 1000) (hw : w.size ≤ 1048576) (n : Nat) : ∀ (j i : Nat) (st out r : List Int), j + n = w.size → i ≤ l.length → st.length + out.length ≤ i → runL ((bs w).drop j) (l.drop i) st.reverse out = some r →
    Ev (fun k => spec_l2Run.l0 k l w out st (i : Int) (j : Int)) r ∧ Ev (fun k => impl_runWord.l0 k (l.drop i) w st out (w.size : Int) (j : Int)) r := by
  induction n with
  | zero =>
    intro j i st out r hj hi hs h
    rw [bs_end w j (by omega)] at h
    simp only [runL, Option.some.injEq] at h
    subst h
    have c : ¬ (j : Int) < (w.size : Int) := by omega
    exact ⟨Ev.step (f := fun _ => some out) (fun k => by simp only [spec_l2Run.l0, c, ↓reduceIte]) (Ev.now _), Ev.step (f := fun _ => some out) (fun k => by simp only [impl_runWord.l0, c, ↓reduceIte]) (Ev.now _)⟩
  | succ n ih =>
    intro j i st out r hj hi hs h
    rw [bs_drop w j (by omega)] at h
    have c : (j : Int) < (w.size : Int) := by omega
    have c0 : 0 ≤ (j : Int) := by omega
    have ej := Aside0.mk (show wrap64 ((j : Int) + 1) = ((j + 1 : Nat) : Int) from wj (by omega))
    have c0i : 0 ≤ (i : Int) := by omega
    simp only [runL] at h
    by_cases hI : bt w (j : Int) = 73
    · rw [if_pos hI] at h
      by_cases hil : i < l.length
      · have ci : (i : Int) < (l.length : Int) := by omega
        have ei := Aside0.mk (show wrap64 ((i : Int) + 1) = ((i + 1 : Nat) : Int) from wj (by omega))
        rw [rd_drop l i hil] at h
        dsimp only at h
        obtain ⟨h1, h2⟩ := ih (j + 1) (i + 1) (st ++ [rd l (i : Int)]) out r (by omega) (by omega) (by simp; omega) (by rw [List.reverse_append, List.reverse_singleton, List.singleton_append]; exact h)
        have lim : st.length < 17592186044416 := by omega
        have g0 : 0 < ((l.drop i).length : Int) := by rw [List.length_drop]; omega
        have g1 : 1 ≤ ((l.drop i).length : Int) := by omega
        have e0 : rd (l.drop i) 0 = rd l (i : Int) := by rw [rd_drop l i hil]; rfl
        refine ⟨Ev.step (fun k => ?_) h1, Ev.step (fun k => ?_) h2⟩
        · simp only [spec_l2Run.l0, c, c0, hI, ci, c0i, lim, ei.out, ej.out, ↓reduceIte]
        · simp only [impl_runWord.l0, c, c0, hI, g0, g1, lim, e0, ej.out, List.drop_drop, ↓reduceIte]
      · rw [List.drop_of_length_le (by omega)] at h
        cases h
    · rw [if_neg hI] at h
      rcases snoc_cases st with rfl | ⟨st, x, rfl⟩
      · cases h
      · rw [show (st ++ [x]).reverse = x :: st.reverse by simp] at h
        dsimp only at h
        have hlen : (st ++ [x]).length = st.length + 1 := by simp
        rw [hlen] at hs
        obtain ⟨h1, h2⟩ := ih (j + 1) i st (out ++ [x]) r (by omega) hi (by simp; omega) h
        have et := Aside0.mk (show wrap64 (((st ++ [x]).length : Int) - 1) = (st.length : Int) from by rw [hlen, wr (by omega) (by omega)]; omega)
        have etop : rd (st ++ [x]) (st.length : Int) = x := by rw [rd_nat]; simp
        have t0 : 0 ≤ (st.length : Int) := by omega
        have t1 : (st.length : Int) < ((st ++ [x]).length : Int) := by rw [hlen]; omega
        have t2 : (st.length : Int) ≤ ((st ++ [x]).length : Int) := by rw [hlen]; omega
        have etake : (st ++ [x]).take ((st.length : Int)).toNat = st := by rw [Int.toNat_natCast]; simp
        have lim : out.length < 17592186044416 := by omega
        refine ⟨Ev.step (fun k => ?_) h1, Ev.step (fun k => ?_) h2⟩
        · simp only [spec_l2Run.l0, c, c0, hI, et.out, t0, t1, t2, etop, etake, lim, ej.out, ↓reduceIte]
        · simp only [impl_runWord.l0, c, c0, hI, et.out, t0, t1, t2, etop, etake, lim, ej.out, ↓reduceIte]
theorem ev_run (l : List Int) (w : ByteArray) (hl : l.length ≤ 1000) (hw : w.size ≤ 1048576) {r : List Int} (h : runL (bs w) l [] [] = some r) : Ev (fun k => spec_l2Run.f k l w) r ∧ Ev (fun k => impl_runWord.f k l w) r := by
  have := run_both l w hl hw w.size 0 0 [] [] r (by omega) (by omega) (by simp) (by rw [List.drop_zero, List.drop_zero]; exact h)
  rw [List.drop_zero] at this
  exact this
/-! ### a limited sweep, on lists: what comes out -/
def sw (d : Int) : List Int → List Int → List Int → List Int
  | [], st, out => out ++ st
  | n :: rest, st, out => if ((st.drop (lwPop n st).1).length : Int) = d then sw d rest (n :: (st.drop (lwPop n st).1).tail) (out ++ st.take (lwPop n st).1 ++ (st.drop (lwPop n st).1).take 1) else sw d rest (n :: st.drop (lwPop n st).1) (out ++ st.take (lwPop n st).1)
theorem lwPop_drop (n : Int) : ∀ st, (lwPop n st).2 = st.drop (lwPop n st).1 ∧ (lwPop n st).1 ≤ st.length
  | [] => ⟨rfl, Nat.le_refl _⟩
  | x :: t => by
    have ih := lwPop_drop n t
    simp only [lwPop]
    split
    · exact ⟨by simpa using ih.1, by simpa using ih.2⟩
    · exact ⟨rfl, by simp⟩
theorem lw_out (d : Int) : ∀ (l st out : List Int), lw d l st out = out ++ lw d l st []
  | [], st, out => by simp [lw]
  | n :: rest, st, out => by
    simp only [lw]
    split
    · rw [lw_out d rest _ (out ++ _ ++ _ ++ _), lw_out d rest _ ([] ++ _ ++ _ ++ _)]; simp
    · rw [lw_out d rest _ (out ++ _ ++ _), lw_out d rest _ ([] ++ _ ++ _)]; simp
theorem runL_pops (m : Nat) : ∀ (t rest st out : List Int), m ≤ st.length → runL (List.replicate m 79 ++ t) rest st out = runL t rest (st.drop m) (out ++ st.take m) := by
  induction m with
  | zero => intro t rest st out h; simp
  | succ m ih =>
    intro t rest st out h
    cases st with
    | nil => simp at h
    | cons x s =>
      rw [List.replicate_succ, List.cons_append]
      simp only [runL]
      rw [if_neg (by decide), ih t rest s _ (by simpa using h)]
      simp
theorem run_lw (d : Int) (hd : 1 ≤ d) : ∀ (l st o : List Int), runL (lw d l st []) l st o = some (sw d l st o)
  | [], st, o => by
    have h := runL_pops st.length [] [] st o (Nat.le_refl _)
    rw [List.append_nil] at h
    simp only [lw, sw, List.nil_append]
    rw [h]
    simp [runL]
  | n :: rest, st, o => by
    obtain ⟨e, hle⟩ := lwPop_drop n st
    have ih := run_lw d hd rest
    simp only [lw, sw, e]
    split
    · rename_i h
      rw [lw_out, List.nil_append, List.append_assoc, List.append_assoc, runL_pops _ _ _ _ _ hle]
      cases hs : st.drop (lwPop n st).1 with
      | nil => rw [hs] at h; simp at h; omega
      | cons x s =>
        simp only [List.singleton_append, runL]
        simp only [show ¬ (79 : Int) = 73 by decide, List.tail_cons, ↓reduceIte]
        rw [ih]
        simp
    · rw [lw_out, List.nil_append, List.append_assoc, runL_pops _ _ _ _ _ hle]
      simp only [List.singleton_append, runL, ↓reduceIte]
      rw [ih]
theorem sw_perm (d : Int) : ∀ (l st o : List Int), (sw d l st o).Perm (o ++ st ++ l)
  | [], st, o => by simp [sw]
  | n :: rest, st, o => by
    have hsplit : ∀ m, st.take m ++ st.drop m = st := fun m => List.take_append_drop m st
    simp only [sw]
    split
    · refine (sw_perm d rest _ _).trans ?_
      generalize (lwPop n st).1 = m
      have e : (st.drop m).take 1 ++ (st.drop m).tail = st.drop m := by cases st.drop m <;> simp
      have : o ++ st ++ n :: rest = o ++ (st.take m ++ ((st.drop m).take 1 ++ (st.drop m).tail)) ++ n :: rest := by rw [e, hsplit]
      rw [this]
      simp only [List.append_assoc, List.cons_append]
      refine List.Perm.append_left o (List.Perm.append_left _ (List.Perm.append_left _ ?_))
      exact (List.perm_middle).symm
    · refine (sw_perm d rest _ _).trans ?_
      generalize (lwPop n st).1 = m
      have : o ++ st ++ n :: rest = o ++ (st.take m ++ st.drop m) ++ n :: rest := by rw [hsplit]
      rw [this]
      simp only [List.append_assoc, List.cons_append]
      refine List.Perm.append_left o (List.Perm.append_left _ ?_)
      exact (List.perm_middle).symm
theorem sw_len (d : Int) (l : List Int) : (sw d l [] []).length = l.length := by
  have := (sw_perm d l [] []).length_eq
  simpa using this
theorem lw_byte (d : Int) : ∀ (l st out : List Int), (∀ c ∈ out, c = 73 ∨ c = 79) → ∀ c ∈ lw d l st out, c = 73 ∨ c = 79
  | [], st, out, h => by
    intro c hc
    simp only [lw, List.mem_append, List.mem_replicate] at hc
    rcases hc with hc | hc
    · exact h c hc
    · exact .inr hc.2
  | n :: rest, st, out, h => by
    simp only [lw]
    split
    · refine lw_byte d rest _ _ ?_
      intro c hc
      simp only [List.mem_append, List.mem_replicate, List.mem_singleton] at hc
      rcases hc with ((hc | hc) | hc) | hc
      · exact h c hc
      · exact .inr hc.2
      · exact .inr hc
      · exact .inl hc
    · refine lw_byte d rest _ _ ?_
      intro c hc
      simp only [List.mem_append, List.mem_replicate, List.mem_singleton] at hc
      rcases hc with (hc | hc) | hc
      · exact h c hc
      · exact .inr hc.2
      · exact .inl hc
theorem ev_sweep (l : List Int) (d : Int) (hl : l.length ≤ 7) (hd1 : 1 ≤ d) : Ev (fun k => spec_l10Sweep.f k l d) (sw d l [] []) ∧ Ev (fun k => impl_limitedSweep.f k l d) (sw d l [] []) := by
  have hb : bs (strOfNums (lw d l [] [])) = lw d l [] [] := bs_son _ (lw_byte d l [] [] (by intro c hc; cases hc))
  have hr := run_lw d hd1 l [] []
  rw [← hb] at hr
  have hsz : (strOfNums (lw d l [] [])).size ≤ 1048576 := by rw [son_size, lw_len d hd1]; simp; omega
  obtain ⟨r1, r2⟩ := ev_run l _ (by omega) hsz hr
  unfold spec_l10Sweep.f impl_limitedSweep.f
  refine ⟨Ev.bind (ev_l10Word l d hl hd1) (Ev.bind r1 (Ev.now _)), ?_⟩
  have c : 1 ≤ d ∧ l.length ≤ 1000 := ⟨hd1, by omega⟩
  simp only [impl_limitedWord.f, if_pos c, Option.bind_some]
  exact Ev.bind r2 (Ev.now _)
/-! ### the sorted order -/
theorem iota_get (n i : Nat) (h : i < n) : rd (iota 1 n) (i : Int) = 1 + (i : Int) := rd_iota 1 n i h
theorem ev_l2Sorted (n : Nat) (hn : n ≤ 1000) : Ev (fun k => spec_l2Sorted.f k (n : Int)) (iota 1 n) := by
  have go : ∀ (m j : Nat), j + m = n → Ev (fun k => spec_l2Sorted.l0 k (n : Int) (iota 1 j) (1 + (j : Int))) (iota 1 n) := by
    intro m
    induction m with
    | zero =>
      intro j hj
      have c : ¬ 1 + (j : Int) ≤ (n : Int) := by omega
      obtain rfl : j = n := by omega
      exact Ev.step (f := fun _ => some (iota 1 j)) (fun k => by simp only [spec_l2Sorted.l0, c, ↓reduceIte]) (Ev.now _)
    | succ m ih =>
      intro j hj
      have c : 1 + (j : Int) ≤ (n : Int) := by omega
      have lim : (iota 1 j).length < 17592186044416 := by rw [iota_length]; omega
      have e := Aside0.mk (show wrap64 (1 + (j : Int) + 1) = 1 + ((j + 1 : Nat) : Int) from by rw [wr (by omega) (by omega)]; omega)
      refine Ev.step (fun k => ?_) (ih (j + 1) (by omega))
      simp only [spec_l2Sorted.l0, c, lim, e.out, ↓reduceIte]
      rw [iota_succ]
  have := go n 0 (by omega)
  exact this
/-! ### sorted orders -/
theorem ev_l1Same (a b : List Int) (ha : a.length ≤ 1000) : Ev (fun k => spec_l1Same.f k a b) (decide (a = b)) := by
  unfold spec_l1Same.f
  by_cases hl : a.length = b.length
  · have c : (a.length : Int) = (b.length : Int) := by omega
    simp only [c, ↓reduceIte]
    have go : ∀ (m j : Nat), j + m = a.length → Ev (fun k => spec_l1Same.l0 k a b (j : Int)) (decide (a.drop j = b.drop j)) := by
      intro m
      induction m with
      | zero =>
        intro j hj
        have c : ¬ (j : Int) < (a.length : Int) := by omega
        rw [List.drop_of_length_le (by omega), List.drop_of_length_le (by omega)]
        exact Ev.step (f := fun _ => some true) (fun k => by simp only [spec_l1Same.l0, c, ↓reduceIte]) (by simpa using Ev.now true)
      | succ m ih =>
        intro j hj
        have c : (j : Int) < (a.length : Int) := by omega
        have c0 : 0 ≤ (j : Int) := by omega
        have c1 : (j : Int) < (b.length : Int) := by omega
        have e := Aside0.mk (show wrap64 ((j : Int) + 1) = ((j + 1 : Nat) : Int) from wj (by omega))
        rw [rd_drop a j (by omega), rd_drop b j (by omega)]
        by_cases h : rd a (j : Int) = rd b (j : Int)
        · have hd : decide (rd a (j : Int) :: a.drop (j + 1) = rd b (j : Int) :: b.drop (j + 1)) = decide (a.drop (j + 1) = b.drop (j + 1)) := by simp [h]
          rw [hd]
          refine Ev.step (fun k => ?_) (ih (j + 1) (by omega))
          simp only [spec_l1Same.l0, c, c0, c1, e.out, ↓reduceIte]
          rw [if_pos h]
        · have hd : decide (rd a (j : Int) :: a.drop (j + 1) = rd b (j : Int) :: b.drop (j + 1)) = false := by simp [h]
          rw [hd]
          exact Ev.step (f := fun _ => some false) (fun k => by simp only [spec_l1Same.l0, c, c0, c1, h, ↓reduceIte]) (Ev.now _)
    have := go a.length 0 (by omega)
    exact this
  · have c : ¬ (a.length : Int) = (b.length : Int) := by omega
    simp only [c, ↓reduceIte]
    have : decide (a = b) = false := decide_eq_false (fun h => hl (by rw [h]))
    rw [this]
    exact Ev.now _
theorem ev_IsSorted (l : List Int) (hl : l.length ≤ 1000) (h1 : 1 ≤ l.length) : Ev (fun k => slices_IsSorted_int_int.f k l) (decide (∀ i : Nat, i < l.length - 1 → rd l (i : Int) ≤ rd l ((i + 1 : Nat) : Int))) := by
  have go : ∀ (m : Nat), m < l.length → Ev (fun k => slices_IsSorted_int_int.l0 k l (m : Int)) (decide (∀ i : Nat, i < m → rd l (i : Int) ≤ rd l ((i + 1 : Nat) : Int))) := by
    intro m
    induction m with
    | zero =>
      intro hm
      have c : ¬ ((0 : Nat) : Int) > 0 := by omega
      have hd : decide (∀ i : Nat, i < 0 → rd l (i : Int) ≤ rd l ((i + 1 : Nat) : Int)) = true := decide_eq_true (fun i hi => absurd hi (Nat.not_lt_zero i))
      rw [hd]
      exact Ev.step (f := fun _ => some true) (fun k => by simp only [slices_IsSorted_int_int.l0, c, ↓reduceIte]) (Ev.now _)
    | succ m ih =>
      intro hm
      have c : ((m + 1 : Nat) : Int) > 0 := by omega
      have c0 : 0 ≤ ((m + 1 : Nat) : Int) := by omega
      have c1 : ((m + 1 : Nat) : Int) < (l.length : Int) := by omega
      have e := Aside0.mk (show wrap64 (((m + 1 : Nat) : Int) - 1) = (m : Int) from by rw [wr (by omega) (by omega)]; omega)
      have d0 : 0 ≤ (m : Int) := by omega
      have d1 : (m : Int) < (l.length : Int) := by omega
      by_cases h : rd l ((m + 1 : Nat) : Int) < rd l (m : Int)
      · have hd : decide (∀ i : Nat, i < m + 1 → rd l (i : Int) ≤ rd l ((i + 1 : Nat) : Int)) = false := decide_eq_false (fun g => by have := g m (by omega); omega)
        rw [hd]
        refine Ev.step (f := fun _ => some false) (fun k => ?_) (Ev.now _)
        simp only [slices_IsSorted_int_int.l0, cmp_Less_int.f, cmp_isNaN_int.f, bne_self_eq_false, Option.bind_some, c, c0, c1, e.out, d0, d1, Bool.false_eq_true, ↓reduceIte]
        rw [if_pos (decide_eq_true h)]
      · have hd : decide (∀ i : Nat, i < m + 1 → rd l (i : Int) ≤ rd l ((i + 1 : Nat) : Int)) = decide (∀ i : Nat, i < m → rd l (i : Int) ≤ rd l ((i + 1 : Nat) : Int)) := by
          refine decide_eq_decide.2 ⟨fun g i hi => g i (by omega), fun g i hi => ?_⟩
          by_cases hm : i = m
          · subst hm; omega
          · exact g i (by omega)
        rw [hd]
        refine Ev.step (fun k => ?_) (ih (by omega))
        simp only [slices_IsSorted_int_int.l0, cmp_Less_int.f, cmp_isNaN_int.f, bne_self_eq_false, Option.bind_some, c, c0, c1, e.out, d0, d1, Bool.false_eq_true, ↓reduceIte]
        rw [if_neg (by simpa using h)]
  have e := Aside0.mk (show wrap64 ((l.length : Int) - 1) = ((l.length - 1 : Nat) : Int) from by rw [wr (by omega) (by omega)]; omega)
  unfold slices_IsSorted_int_int.f
  rw [e.out]
  exact go (l.length - 1) (by omega)
/-- Numbers from 1 to n, each once. -/
def OrdP (l : List Int) : Prop := l.Nodup ∧ ∀ x ∈ l, 1 ≤ x ∧ x ≤ (l.length : Int)
theorem ordB_P {l : List Int} (h : ordB l = true) : OrdP l := ⟨ordB_nodup h, ordB_range h⟩
theorem OrdP.perm {l m : List Int} (h : OrdP l) (p : m.Perm l) : OrdP m := ⟨p.symm.nodup h.1, fun x hx => by rw [p.length_eq]; exact h.2 x (p.mem_iff.1 hx)⟩
theorem rd_mem (l : List Int) (i : Nat) (h : i < l.length) : rd l (i : Int) ∈ l := by
  rw [rd_get l i h]
  exact List.getElem_mem h
theorem ordP_iota {l : List Int} (h : OrdP l) (adj : ∀ i : Nat, i < l.length - 1 → rd l (i : Int) ≤ rd l ((i + 1 : Nat) : Int)) : l = iota 1 l.length := by
  have adj' : ∀ i : Nat, i + 1 < l.length → rd l (i : Int) < rd l ((i + 1 : Nat) : Int) := by
    intro i hi
    have h1 := adj i (by omega)
    have h2 : rd l (i : Int) ≠ rd l ((i + 1 : Nat) : Int) := by
      rw [rd_get l i (by omega), rd_get l (i + 1) hi]
      exact (List.pairwise_iff_getElem.1 h.1) i (i + 1) (by omega) hi (by omega)
    omega
  have up : ∀ i : Nat, i < l.length → 1 + (i : Int) ≤ rd l (i : Int) := by
    intro i
    induction i with
    | zero =>
      intro hi
      have := (h.2 _ (rd_mem l 0 hi)).1
      simpa using this
    | succ i ih =>
      intro hi
      have := ih (by omega)
      have := adj' i hi
      omega
  have down : ∀ m : Nat, m < l.length → rd l ((l.length - 1 - m : Nat) : Int) ≤ (l.length : Int) - m := by
    intro m
    induction m with
    | zero =>
      intro hm
      have := (h.2 _ (rd_mem l (l.length - 1 - 0) (by omega))).2
      simpa using this
    | succ m ih =>
      intro hm
      have a := ih (by omega)
      have b := adj' (l.length - 1 - (m + 1)) (by omega)
      rw [show l.length - 1 - (m + 1) + 1 = l.length - 1 - m by omega] at b
      omega
  refine List.ext_getElem (by rw [iota_length]) ?_
  intro i h1 h2
  have a := up i h1
  have b := down (l.length - 1 - i) (by omega)
  rw [show l.length - 1 - (l.length - 1 - i) = i by omega] at b
  have e : rd (iota 1 l.length) (i : Int) = 1 + (i : Int) := rd_iota 1 l.length i h1
  rw [rd_get l i h1] at a b
  rw [rd_get _ i h2] at e
  rw [e]
  omega
theorem asc_iota {l : List Int} (h : OrdP l) (p : l.Pairwise (· < ·)) : l = iota 1 l.length := by
  refine ordP_iota h ?_
  intro i hi
  rw [rd_get l i (by omega), rd_get l (i + 1) (by omega)]
  exact Int.le_of_lt ((List.pairwise_iff_getElem.1 p) i (i + 1) (by omega) (by omega) (by omega))
theorem sorted_adj {l : List Int} (h : OrdP l) : decide (∀ i : Nat, i < l.length - 1 → rd l (i : Int) ≤ rd l ((i + 1 : Nat) : Int)) = decide (l = iota 1 l.length) := by
  refine decide_eq_decide.2 ⟨ordP_iota h, fun e i hi => ?_⟩
  rw [e, rd_iota 1 l.length i (by omega), rd_iota 1 l.length (i + 1) (by omega)]
  omega
theorem ev_isSorted (l : List Int) (hl : l.length ≤ 7) (h1 : 1 ≤ l.length) (h : OrdP l) : Ev (fun k => impl_isSorted.f k l) (decide (l = iota 1 l.length)) := by
  unfold impl_isSorted.f
  rw [← sorted_adj h]
  exact Ev.bind (ev_IsSorted l (by omega) h1) (Ev.now _)
/-! ### a sweep sorts one more number at the end -/
theorem lwPop_all (m : Int) : ∀ (st : List Int), (∀ x ∈ st, x < m) → (lwPop m st).1 = st.length
  | [], _ => rfl
  | x :: t, h => by
    simp only [lwPop]
    rw [if_pos (h x (by simp))]
    dsimp only
    rw [lwPop_all m t (fun y hy => h y (by simp [hy]))]
    rfl
theorem lwPop_keep (n m : Int) (hm : ¬ m < n) : ∀ (s : List Int), (lwPop n (s ++ [m])).1 = (lwPop n s).1
  | [] => by simp [lwPop, hm]
  | x :: t => by
    simp only [List.cons_append, lwPop]
    split
    · dsimp only
      rw [lwPop_keep n m hm t]
    · rfl
theorem sw_up (d : Int) (hd : 2 ≤ d) : ∀ (b : List Int) (x : Int) (o : List Int), (x :: b).Pairwise (· < ·) → sw d b [x] o = o ++ x :: b
  | [], x, o, _ => rfl
  | b0 :: b, x, o, h => by
    have hx : x < b0 := (List.pairwise_cons.1 h).1 b0 (by simp)
    have e := lwPop_all b0 [x] (by intro y hy; rw [List.mem_singleton] at hy; omega)
    simp only [sw, e]
    rw [if_neg (by simp; omega)]
    have := sw_up d hd b b0 (o ++ [x]) (List.pairwise_cons.1 h).2
    simpa using this
theorem sw_low (d : Int) (hd : 2 ≤ d) (m : Int) (b : List Int) (hb : (m :: b).Pairwise (· < ·)) : ∀ (q s o : List Int), (∀ x ∈ q, x < m) → (∀ x ∈ s, x < m) → ∃ a', sw d (q ++ b) (s ++ [m]) o = a' ++ m :: b
  | [], s, o, _, hs => by
    cases b with
    | nil => exact ⟨o ++ s, by simp [sw]⟩
    | cons b0 b =>
      have hm : m < b0 := (List.pairwise_cons.1 hb).1 b0 (by simp)
      have e := lwPop_all b0 (s ++ [m]) (by
        intro y hy
        rcases List.mem_append.1 hy with hy | hy
        · have := hs y hy; omega
        · rw [List.mem_singleton] at hy; omega)
      refine ⟨o ++ s, ?_⟩
      simp only [List.nil_append, sw, e, List.drop_length, List.take_length]
      rw [if_neg (by simp; omega), sw_up d hd b b0 _ (List.pairwise_cons.1 hb).2]
      simp
  | n :: q, s, o, hq, hs => by
    have hn : n < m := hq n (by simp)
    have e := lwPop_keep n m (by omega) s
    have hle := (lwPop_drop n s).2
    have hq' : ∀ x ∈ q, x < m := fun x hx => hq x (by simp [hx])
    simp only [List.cons_append, sw, e]
    generalize (lwPop n s).1 = k at hle
    rw [List.drop_append_of_le_length hle]
    have hs' : ∀ x ∈ s.drop k, x < m := fun x hx => hs x (List.mem_of_mem_drop hx)
    split
    · rename_i hfull
      cases hsd : s.drop k with
      | nil => rw [hsd] at hfull; simp at hfull; omega
      | cons y t =>
        rw [hsd] at hs'
        simp only [List.cons_append, List.tail_cons]
        have := sw_low d hd m b hb q (n :: t) (o ++ (s ++ [m]).take k ++ (y :: (t ++ [m])).take 1) hq' (by
          intro x hx
          rcases List.mem_cons.1 hx with rfl | hx
          · exact hn
          · exact hs' x (by simp [hx]))
        simpa using this
    · have := sw_low d hd m b hb q (n :: s.drop k) (o ++ (s ++ [m]).take k) hq' (by
        intro x hx
        rcases List.mem_cons.1 hx with rfl | hx
        · exact hn
        · exact hs' x hx)
      simpa using this
theorem sw_first (d : Int) (hd : 2 ≤ d) (m : Int) (t : List Int) : ∀ (p st o : List Int), (∀ x ∈ p, x < m) → (∀ x ∈ st, x < m) → ∃ o', sw d (p ++ m :: t) st o = sw d t [m] o'
  | [], st, o, _, hs => by
    have e := lwPop_all m st hs
    refine ⟨o ++ st, ?_⟩
    simp only [List.nil_append, sw, e, List.drop_length, List.take_length]
    rw [if_neg (by simp; omega)]
  | n :: p, st, o, hp, hs => by
    have hp' : ∀ x ∈ p, x < m := fun x hx => hp x (by simp [hx])
    simp only [List.cons_append, sw]
    generalize (lwPop n st).1 = k
    split
    · refine sw_first d hd m t p _ _ hp' ?_
      intro x hx
      rcases List.mem_cons.1 hx with rfl | hx
      · exact hp x (by simp)
      · exact hs x (List.mem_of_mem_drop (List.mem_of_mem_tail hx))
    · refine sw_first d hd m t p _ _ hp' ?_
      intro x hx
      rcases List.mem_cons.1 hx with rfl | hx
      · exact hp x (by simp)
      · exact hs x (List.mem_of_mem_drop hx)
theorem has_max : ∀ (a : List Int), a ≠ [] → a.Nodup → ∃ p m q, a = p ++ m :: q ∧ (∀ x ∈ p, x < m) ∧ ∀ x ∈ q, x < m
  | [], h, _ => absurd rfl h
  | [x], _, _ => ⟨[], x, [], rfl, by simp, by simp⟩
  | x :: y :: t, _, hn => by
    obtain ⟨p, m, q, e, hp, hq⟩ := has_max (y :: t) (by simp) (List.nodup_cons.1 hn).2
    by_cases hx : x < m
    · refine ⟨x :: p, m, q, by rw [e]; rfl, ?_, hq⟩
      intro z hz
      rcases List.mem_cons.1 hz with rfl | hz
      · exact hx
      · exact hp z hz
    · have hm : x ≠ m := by
        rintro rfl
        exact (List.nodup_cons.1 hn).1 (by rw [e]; simp)
      refine ⟨[], x, y :: t, rfl, by simp, ?_⟩
      intro z hz
      rw [e] at hz
      rcases List.mem_append.1 hz with hz | hz
      · have := hp z hz; omega
      · rcases List.mem_cons.1 hz with rfl | hz
        · omega
        · have := hq z hz; omega
theorem sw_step (d : Int) (hd : 2 ≤ d) (a b : List Int) (ha : a ≠ []) (hn : (a ++ b).Nodup) (hb : b.Pairwise (· < ·)) (hab : ∀ x ∈ a, ∀ y ∈ b, x < y) :
    ∃ a' m, sw d (a ++ b) [] [] = a' ++ m :: b ∧ a'.length + 1 = a.length ∧ (m :: b).Pairwise (· < ·) ∧ ∀ x ∈ a', ∀ y ∈ m :: b, x < y := by
  obtain ⟨p, m, q, e, hp, hq⟩ := has_max a ha (List.nodup_append.1 hn).1
  have hmb : (m :: b).Pairwise (· < ·) := List.pairwise_cons.2 ⟨fun y hy => hab m (by rw [e]; simp) y hy, hb⟩
  obtain ⟨o', h1⟩ := sw_first d hd m (q ++ b) p [] [] hp (by simp)
  obtain ⟨a', h2⟩ := sw_low d hd m b hmb q [] o' hq (by simp)
  have hs : sw d (a ++ b) [] [] = a' ++ m :: b := by
    rw [e, List.append_assoc, List.cons_append, h1]
    exact h2
  have hperm := sw_perm d (a ++ b) [] []
  rw [hs, List.nil_append, List.nil_append] at hperm
  have hlen := hperm.length_eq
  simp only [List.length_append, List.length_cons] at hlen
  have hnd : (a' ++ m :: b).Nodup := hperm.symm.nodup hn
  refine ⟨a', m, hs, by omega, hmb, ?_⟩
  have key : ∀ x ∈ a', x < m := by
    intro x hx
    have hx' : x ∈ a ++ b := hperm.mem_iff.1 (by simp [hx])
    have hne := (List.nodup_append.1 hnd).2.2 x hx
    rcases List.mem_append.1 hx' with hxa | hxb
    · rw [e] at hxa
      rcases List.mem_append.1 hxa with h | h
      · exact hp x h
      · rcases List.mem_cons.1 h with rfl | h
        · exact absurd rfl (hne x (by simp))
        · exact hq x h
    · exact absurd rfl (hne x (by simp [hxb]))
  intro x hx y hy
  rcases List.mem_cons.1 hy with rfl | hy
  · exact key x hx
  · have := key x hx
    have := (List.pairwise_cons.1 hmb).1 y hy
    omega
theorem ev_l1Own (l : List Int) (h : l.length ≤ 7) : spec_l1Own.f l = some l := by
  unfold spec_l1Own.f
  have c : ([] : List Int).length + l.length < 17592186044416 := by simp; omega
  simp only [Option.bind_some]
  rw [if_pos c, List.nil_append]
/-- So many sweeps sort a list, and no fewer. -/
def Swept (d : Int) : Nat → List Int → Prop
  | 0, l => l = iota 1 l.length
  | m + 1, l => ¬ l = iota 1 l.length ∧ Swept d m (sw d l [] [])
theorem count_told (l : List Int) (d : Int) (hd : 2 ≤ d) (h1 : 1 ≤ l.length) (h7 : l.length ≤ 7) (n : Nat) : ∀ (a b : List Int) (c : Nat), a.length = n → (a ++ b).length = l.length → OrdP (a ++ b) → b.Pairwise (· < ·) → (∀ x ∈ a, ∀ y ∈ b, x < y) → c + n ≤ 7 →
    ∃ m : Nat, m ≤ n - 1 ∧ Swept d m (a ++ b) ∧ Ev (fun k => spec_CountLimitedSweeps.l0 k l d (c : Int) (a ++ b)) (((c + m : Nat) : Int), true) ∧ Ev (fun k => impl_CountLimitedSweeps.l0 k d (c : Int) (a ++ b)) (((c + m : Nat) : Int), true) := by
  have sorted_case : ∀ (x : List Int) (c : Nat), x.length = l.length → OrdP x → x = iota 1 x.length → Ev (fun k => spec_CountLimitedSweeps.l0 k l d (c : Int) x) (((c + 0 : Nat) : Int), true) ∧ Ev (fun k => impl_CountLimitedSweeps.l0 k d (c : Int) x) (((c + 0 : Nat) : Int), true) := by
    intro x c hlen ho es
    rw [Nat.add_zero]
    refine ⟨?_, ?_⟩
    · refine Ev.step (f := fun k => (spec_l2Sorted.f k (l.length : Int)).bind fun t405 => ((spec_l1Same.f k x t405).bind fun t408 => (if t408 = true then some ((c : Int), true) else (if d = 1 then (some (0, false)) else ((spec_l10Sweep.f k x d).bind fun t409 => (spec_CountLimitedSweeps.l0 k l d (wrap64 ((c : Int) + 1)) t409)))))) (fun k => by simp only [spec_CountLimitedSweeps.l0]) ?_
      refine Ev.bind (ev_l2Sorted l.length (by omega)) (Ev.bind (ev_l1Same x _ (by omega)) ?_)
      rw [← hlen, decide_eq_true es]
      simp only [↓reduceIte]
      exact Ev.now _
    · refine Ev.step (f := fun k => (impl_isSorted.f k x).bind fun t421 => (if t421 = true then (some ((c : Int), true)) else ((impl_limitedSweep.f k x d).bind fun t422 => (impl_CountLimitedSweeps.l0 k d (wrap64 ((c : Int) + 1)) t422)))) (fun k => by simp only [impl_CountLimitedSweeps.l0]) ?_
      refine Ev.bind (ev_isSorted x (by omega) (by omega) ho) ?_
      rw [decide_eq_true es]
      simp only [↓reduceIte]
      exact Ev.now _
  induction n with
  | zero =>
    intro a b c ha hlen ho hb hab hc
    obtain rfl : a = [] := List.length_eq_zero_iff.1 ha
    rw [List.nil_append] at ho hlen ⊢
    have es := asc_iota ho hb
    obtain ⟨s1, s2⟩ := sorted_case b c hlen ho es
    exact ⟨0, Nat.zero_le _, es, s1, s2⟩
  | succ n ih =>
    intro a b c ha hlen ho hb hab hc
    by_cases es : (a ++ b) = iota 1 (a ++ b).length
    · obtain ⟨s1, s2⟩ := sorted_case (a ++ b) c hlen ho es
      exact ⟨0, Nat.zero_le _, es, s1, s2⟩
    · have hn0 : n ≠ 0 := by
        intro h0
        rw [h0] at ha
        obtain ⟨x, hx⟩ := List.length_eq_one_iff.1 ha
        subst hx
        exact es (asc_iota ho (List.pairwise_cons.2 ⟨fun y hy => hab x (by simp) y hy, hb⟩))
      obtain ⟨a', m, hs, hl', hmb, hlt⟩ := sw_step d hd a b (by intro h; rw [h] at ha; simp at ha) ho.1 hb hab
      have hp := sw_perm d (a ++ b) [] []
      rw [hs, List.nil_append, List.nil_append] at hp
      obtain ⟨r, hr, hsw, s1, s2⟩ := ih a' (m :: b) (c + 1) (by omega) (by rw [hp.length_eq]; exact hlen) (ho.perm hp) hmb hlt (by omega)
      rw [← hs] at hsw s1 s2
      have ec := Aside0.mk (show wrap64 ((c : Int) + 1) = ((c + 1 : Nat) : Int) from wj (by omega))
      obtain ⟨w1, w2⟩ := ev_sweep (a ++ b) d (by omega) (by omega)
      have d1 : ¬ d = 1 := by omega
      rw [show c + 1 + r = c + (r + 1) by omega] at s1 s2
      refine ⟨r + 1, by omega, ⟨es, hsw⟩, ?_, ?_⟩
      · refine Ev.step (f := fun k => (spec_l2Sorted.f k (l.length : Int)).bind fun t405 => ((spec_l1Same.f k (a ++ b) t405).bind fun t408 => (if t408 = true then some ((c : Int), true) else ((spec_l10Sweep.f k (a ++ b) d).bind fun t409 => (spec_CountLimitedSweeps.l0 k l d ((c + 1 : Nat) : Int) t409))))) (fun k => by simp only [spec_CountLimitedSweeps.l0, d1, ec.out, ↓reduceIte]) ?_
        refine Ev.bind (ev_l2Sorted l.length (by omega)) (Ev.bind (ev_l1Same (a ++ b) _ (by omega)) ?_)
        rw [← hlen, decide_eq_false es]
        simp only [Bool.false_eq_true, ↓reduceIte]
        exact Ev.bind w1 s1
      · refine Ev.step (f := fun k => (impl_isSorted.f k (a ++ b)).bind fun t421 => (if t421 = true then (some ((c : Int), true)) else ((impl_limitedSweep.f k (a ++ b) d).bind fun t422 => (impl_CountLimitedSweeps.l0 k d ((c + 1 : Nat) : Int) t422)))) (fun k => by simp only [impl_CountLimitedSweeps.l0, ec.out]) ?_
        refine Ev.bind (ev_isSorted (a ++ b) (by omega) (by omega) ho) ?_
        rw [decide_eq_false es]
        simp only [Bool.false_eq_true, ↓reduceIte]
        exact Ev.bind w2 s2
theorem both_CountTold (l : List Int) (d : Int) : ∃ r : Int × Bool, Ev (fun k => spec_CountLimitedSweeps.f k l d) r ∧ Ev (fun k => impl_CountLimitedSweeps.f k l d) r ∧
    (r.2 = true → ordB l = true ∧ 1 ≤ d ∧ d ≤ 7 ∧ ∃ m : Nat, r.1 = (m : Int) ∧ Swept d m l ∧ (m < l.length ∨ m = 0)) := by
  obtain ⟨e1, e2⟩ := ev_limits d
  unfold spec_CountLimitedSweeps.f impl_CountLimitedSweeps.f
  cases ho : ordB l with
  | false =>
    refine ⟨(0, false), Ev.bind (ev_l2Order l) ?_, Ev.bind (ev_isOrder l) ?_, fun h => absurd h Bool.false_ne_true⟩
    · rw [ho]
      simp only [Bool.false_eq_true, ↓reduceIte]
      exact Ev.step (f := fun _ => some (0, false)) (fun k => by simp only [spec_CountLimitedSweeps.j0, ↓reduceIte]) (Ev.now _)
    · rw [ho]
      simp only [Bool.false_eq_true, ↓reduceIte]
      exact Ev.step (f := fun _ => some (0, false)) (fun k => by simp only [impl_CountLimitedSweeps.j0, ↓reduceIte]) (Ev.now _)
  | true =>
    cases hd : (decide (1 ≤ d) && decide (d ≤ 7)) with
    | false =>
      refine ⟨(0, false), Ev.bind (ev_l2Order l) ?_, Ev.bind (ev_isOrder l) ?_, fun h => absurd h Bool.false_ne_true⟩
      · rw [ho]
        simp only [e1, hd, Option.bind_some, Bool.not_false, ↓reduceIte]
        exact Ev.step (f := fun _ => some (0, false)) (fun k => by simp only [spec_CountLimitedSweeps.j0, ↓reduceIte]) (Ev.now _)
      · rw [ho]
        simp only [e2, hd, Option.bind_some, Bool.false_eq_true, ↓reduceIte]
        exact Ev.step (f := fun _ => some (0, false)) (fun k => by simp only [impl_CountLimitedSweeps.j0, ↓reduceIte]) (Ev.now _)
    | true =>
      obtain ⟨h1, h7⟩ := ordB_len ho
      have hP := ordB_P ho
      have hd' := hd
      simp only [Bool.and_eq_true, decide_eq_true_eq] at hd'
      have start : ∀ r, Ev (fun k => spec_CountLimitedSweeps.l0 k l d 0 l) r → Ev (fun k => (spec_l2Order.f k l).bind fun t400 => (if t400 = true then ((spec_l10Limit.f d).bind fun t401 => (spec_CountLimitedSweeps.j0 k l d (!t401))) else (spec_CountLimitedSweeps.j0 k l d true))) r := by
        intro r hr
        refine Ev.bind (ev_l2Order l) ?_
        rw [ho]
        simp only [e1, hd, Option.bind_some, Bool.not_true, ↓reduceIte]
        refine Ev.step (f := fun k => spec_CountLimitedSweeps.l0 k l d 0 l) (fun k => ?_) hr
        simp only [spec_CountLimitedSweeps.j0, ev_l1Own l h7, Option.bind_some, Bool.false_eq_true, ↓reduceIte]
      by_cases hd1 : d = 1
      · by_cases es : l = iota 1 l.length
        · refine ⟨(0, true), start _ ?_, ?_, fun _ => ⟨rfl, hd'.1, hd'.2, 0, rfl, es, .inr rfl⟩⟩
          · refine Ev.step (f := fun k => (spec_l2Sorted.f k (l.length : Int)).bind fun t405 => ((spec_l1Same.f k l t405).bind fun t408 => (if t408 = true then some ((0 : Int), true) else (some (0, false))))) (fun k => by simp only [spec_CountLimitedSweeps.l0, hd1, ↓reduceIte]) ?_
            refine Ev.bind (ev_l2Sorted l.length (by omega)) (Ev.bind (ev_l1Same l _ (by omega)) ?_)
            rw [decide_eq_true es]
            simp only [↓reduceIte]
            exact Ev.now _
          · refine Ev.bind (ev_isOrder l) ?_
            rw [ho]
            simp only [e2, hd, Option.bind_some, ↓reduceIte]
            simp only [if_pos hd1]
            refine Ev.bind (ev_isSorted l h7 h1 hP) ?_
            rw [decide_eq_true es]
            refine Ev.step (f := fun k => impl_CountLimitedSweeps.l0 k d 0 l) (fun k => by simp only [impl_CountLimitedSweeps.j0, Bool.not_true, Bool.false_eq_true, ↓reduceIte]) ?_
            refine Ev.step (f := fun k => (impl_isSorted.f k l).bind fun t421 => (if t421 = true then (some ((0 : Int), true)) else ((impl_limitedSweep.f k l d).bind fun t422 => (impl_CountLimitedSweeps.l0 k d (wrap64 ((0 : Int) + 1)) t422)))) (fun k => by simp only [impl_CountLimitedSweeps.l0]) ?_
            refine Ev.bind (ev_isSorted l h7 h1 hP) ?_
            rw [decide_eq_true es]
            simp only [↓reduceIte]
            exact Ev.now _
        · refine ⟨(0, false), start _ ?_, ?_, fun h => absurd h Bool.false_ne_true⟩
          · refine Ev.step (f := fun k => (spec_l2Sorted.f k (l.length : Int)).bind fun t405 => ((spec_l1Same.f k l t405).bind fun t408 => (if t408 = true then some ((0 : Int), true) else (some (0, false))))) (fun k => by simp only [spec_CountLimitedSweeps.l0, hd1, ↓reduceIte]) ?_
            refine Ev.bind (ev_l2Sorted l.length (by omega)) (Ev.bind (ev_l1Same l _ (by omega)) ?_)
            rw [decide_eq_false es]
            simp only [Bool.false_eq_true, ↓reduceIte]
            exact Ev.now _
          · refine Ev.bind (ev_isOrder l) ?_
            rw [ho]
            simp only [e2, hd, Option.bind_some, ↓reduceIte]
            simp only [if_pos hd1]
            refine Ev.bind (ev_isSorted l h7 h1 hP) ?_
            rw [decide_eq_false es]
            exact Ev.step (f := fun _ => some (0, false)) (fun k => by simp only [impl_CountLimitedSweeps.j0, Bool.not_false, ↓reduceIte]) (Ev.now _)
      · obtain ⟨m, hm, hsw, a, b⟩ := count_told l d (by omega) h1 h7 l.length l [] 0 rfl (by simp) (by simpa using hP) List.Pairwise.nil (by simp) (by omega)
        rw [List.append_nil] at a b hsw
        rw [Nat.zero_add] at a b
        refine ⟨((m : Int), true), start _ a, ?_, fun _ => ⟨rfl, hd'.1, hd'.2, m, rfl, hsw, by omega⟩⟩
        refine Ev.bind (ev_isOrder l) ?_
        rw [ho]
        simp only [e2, hd, Option.bind_some, hd1, ↓reduceIte]
        exact Ev.step (f := fun k => impl_CountLimitedSweeps.l0 k d 0 l) (fun k => by simp only [impl_CountLimitedSweeps.j0, Bool.false_eq_true, ↓reduceIte]) b
theorem take_last {α : Type} (st : List α) (x : α) : (st ++ [x]).take st.length = st := by simp
/-- Both stand at one state: so many have come out (m), so many been pushed (i), the same stack. -/
theorem both_loops (l : List Int) (d : Int) (hl : l.length ≤ 7) (hd1 : 1 ≤ d) (n : Nat) : ∀ (i m : Nat) (st : List Int), 2 * (l.length - i) + st.length < n → st.length + m = i → i ≤ l.length → (st.length : Int) ≤ d →
    ∃ r : Int, (m < l.length → Ev (fun k => spec_MostWithin.l1 k l d st (i : Int) (m : Int)) (r, true)) ∧ (m = l.length → r = m) ∧ Ev (fun k => impl_MostWithin.l1 k (l.drop i) d st ((m : Int) + 1)) (r, true) := by
  induction n with
  | zero => intro i m st h; omega
  | succ n ih =>
    intro i m st hn hm hi hst
    have em := Aside0.mk (show wrap64 ((m : Int) + 1) = (m : Int) + 1 from wr (by omega) (by omega))
    have em2 := Aside0.mk (show wrap64 ((m : Int) + 1 + 1) = ((m + 1 : Nat) : Int) + 1 from by rw [wr (by omega) (by omega)]; omega)
    have em0 := Aside0.mk (show wrap64 ((m : Int) + 1 - 1) = (m : Int) from by rw [wr (by omega) (by omega)]; omega)
    have ei := Aside0.mk (show wrap64 ((i : Int) + 1) = ((i + 1 : Nat) : Int) from wj (by omega))
    have ld : ((l.drop i).length : Int) = (l.length : Int) - i := by rw [List.length_drop]; omega
    have c0i : 0 ≤ (i : Int) := by omega
    have lim : st.length < 17592186044416 := by omega
    rcases snoc_cases st with rfl | ⟨st, x, rfl⟩
    · -- nothing is on the stack
      simp only [List.length_nil, Int.natCast_zero] at hn hm hst
      by_cases hlt : i < l.length
      · have ci : (i : Int) < (l.length : Int) := by omega
        obtain ⟨r, h1, h2, h3⟩ := ih (i + 1) m [rd l (i : Int)] (by simp only [List.length_singleton]; omega) (by simp; omega) (by omega) (by simp; omega)
        refine ⟨r, fun hml => ?_, h2, ?_⟩
        · refine Ev.step (fun k => ?_) (h1 hml)
          have cd : (0 : Int) < d := by omega
          have cn : (([] : List Int).length : Int) = 0 := rfl
          simp only [spec_MostWithin.l1, ci, cn, cd, c0i, lim, ei.out, ↓reduceIte, List.nil_append]
        · have g0 : ¬ (([] : List Int).length : Int) > 0 := by simp
          have g1 : ¬ ((l.drop i).length : Int) = 0 := by omega
          have g2 : ¬ (([] : List Int).length : Int) = d := by simp; omega
          have g3 : 0 < ((l.drop i).length : Int) := by omega
          have g4 : 1 ≤ ((l.drop i).length : Int) := by omega
          refine Ev.step (f := fun k => impl_MostWithin.l0 k ((l.drop i).drop 1) d ([] ++ [rd (l.drop i) 0]) ((m : Int) + 1)) (fun k => by simp only [impl_MostWithin.l1, g0, g1, g2, g3, g4, lim, ↓reduceIte]) (Ev.step (f := fun k => impl_MostWithin.l1 k ((l.drop i).drop 1) d ([] ++ [rd (l.drop i) 0]) ((m : Int) + 1)) (fun k => by simp only [impl_MostWithin.l0]) ?_)
          have e0 : rd (l.drop i) 0 = rd l (i : Int) := by
            rw [rd_drop l i hlt]; rfl
          rw [List.drop_drop, e0]
          exact h3
      · refine ⟨m, fun hml => by omega, fun _ => rfl, ?_⟩
        have g0 : ¬ (([] : List Int).length : Int) > 0 := by simp
        have g1 : ((l.drop i).length : Int) = 0 := by omega
        refine Ev.step (f := fun _ => some ((m : Int), true)) (fun k => ?_) (Ev.now _)
        simp only [impl_MostWithin.l1, g0, g1, em0.out, ↓reduceIte]
    · have hlen : (st ++ [x]).length = st.length + 1 := by simp
      rw [hlen] at hn hm hst lim
      have et := Aside0.mk (show wrap64 (((st ++ [x]).length : Int) - 1) = (st.length : Int) from by rw [hlen, wr (by omega) (by omega)]; omega)
      have etop : rd (st ++ [x]) (st.length : Int) = x := by rw [rd_nat]; simp
      have t0 : 0 ≤ (st.length : Int) := by omega
      have t1 : (st.length : Int) < ((st ++ [x]).length : Int) := by rw [hlen]; omega
      have t2 : (st.length : Int) ≤ ((st ++ [x]).length : Int) := by rw [hlen]; omega
      have tp : ((st ++ [x]).length : Int) > 0 := by rw [hlen]; omega
      have tz : ¬ ((st ++ [x]).length : Int) = 0 := by rw [hlen]; omega
      have etake : (st ++ [x]).take ((st.length : Int)).toNat = st := by rw [Int.toNat_natCast]; exact take_last st x
      by_cases hx : x = (m : Int) + 1
      · -- the next one is on top: it comes out
        obtain ⟨r, h1, h2, h3⟩ := ih i (m + 1) st (by omega) (by omega) hi (by omega)
        refine ⟨r, fun hml => ?_, fun e => by omega, ?_⟩
        · have stop : Ev (fun k => spec_MostWithin.l0 k l d st (i : Int) ((m + 1 : Nat) : Int)) (r, true) := by
            by_cases hml' : m + 1 < l.length
            · have c : ((m + 1 : Nat) : Int) < (l.length : Int) := by omega
              exact Ev.step (fun k => by simp only [spec_MostWithin.l0, c, ↓reduceIte]) (h1 hml')
            · have c : ¬ ((m + 1 : Nat) : Int) < (l.length : Int) := by omega
              rw [h2 (by omega)]
              exact Ev.step (f := fun _ => some (((m + 1 : Nat) : Int), true)) (fun k => by simp only [spec_MostWithin.l0, c, ↓reduceIte]) (Ev.now _)
          have em' := Aside0.mk (show wrap64 ((m : Int) + 1) = ((m + 1 : Nat) : Int) from wj (by omega))
          by_cases a1 : (i : Int) < (l.length : Int)
          · by_cases a2 : ((st ++ [x]).length : Int) < d
            · refine Ev.step (fun k => ?_) stop
              simp only [spec_MostWithin.l1, a1, a2, tz, et.out, t0, t1, t2, etop, em'.out, ↓reduceIte]
              rw [if_pos (by omega), etake]
            · refine Ev.step (fun k => ?_) stop
              simp only [spec_MostWithin.l1, a1, a2, et.out, t0, t1, t2, etop, em'.out, ↓reduceIte]
              rw [if_pos (by omega), etake]
          · refine Ev.step (fun k => ?_) stop
            simp only [spec_MostWithin.l1, a1, et.out, t0, t1, t2, etop, em'.out, ↓reduceIte]
            rw [if_pos (by omega), etake]
        · refine Ev.step (fun k => ?_) h3
          simp only [impl_MostWithin.l1, tp, et.out, t0, t1, t2, etop, em2.out, ↓reduceIte]
          rw [if_pos hx, etake]
      · by_cases a1 : i < l.length
        · have b1 : (i : Int) < (l.length : Int) := by omega
          by_cases a2 : ((st ++ [x]).length : Int) < d
          · -- one more is pushed
            obtain ⟨r, h1, h2, h3⟩ := ih (i + 1) m (st ++ [x] ++ [rd l (i : Int)]) (by simp; omega) (by simp; omega) (by omega) (by rw [List.length_append, hlen]; rw [hlen] at a2; simp; omega)
            refine ⟨r, fun hml => ?_, h2, ?_⟩
            · refine Ev.step (fun k => ?_) (h1 hml)
              have lim' : (st ++ [x]).length < 17592186044416 := by rw [hlen]; exact lim
              simp only [spec_MostWithin.l1, b1, a2, tz, et.out, t0, t1, etop, em.out, hx, c0i, ei.out, lim', ↓reduceIte]
            · have g1 : ¬ ((l.drop i).length : Int) = 0 := by omega
              have g2 : ¬ ((st ++ [x]).length : Int) = d := by omega
              have g3 : 0 < ((l.drop i).length : Int) := by omega
              have g4 : 1 ≤ ((l.drop i).length : Int) := by omega
              have lim' : (st ++ [x]).length < 17592186044416 := by rw [hlen]; exact lim
              refine Ev.step (f := fun k => impl_MostWithin.l0 k ((l.drop i).drop 1) d (st ++ [x] ++ [rd (l.drop i) 0]) ((m : Int) + 1)) (fun k => by simp only [impl_MostWithin.l1, tp, et.out, t0, t1, etop, hx, g1, g2, g3, g4, lim', ↓reduceIte]) (Ev.step (f := fun k => impl_MostWithin.l1 k ((l.drop i).drop 1) d (st ++ [x] ++ [rd (l.drop i) 0]) ((m : Int) + 1)) (fun k => by simp only [impl_MostWithin.l0]) ?_)
              have e0 : rd (l.drop i) 0 = rd l (i : Int) := by
                rw [rd_drop l i a1]; rfl
              rw [List.drop_drop, e0]
              exact h3
          · refine ⟨m, fun hml => ?_, fun _ => rfl, ?_⟩
            · refine Ev.step (f := fun _ => some ((m : Int), true)) (fun k => ?_) (Ev.now _)
              simp only [spec_MostWithin.l1, b1, a2, et.out, t0, t1, etop, em.out, hx, ↓reduceIte]
            · have g1 : ¬ ((l.drop i).length : Int) = 0 := by omega
              have g2 : ((st ++ [x]).length : Int) = d := by rw [hlen] at a2 ⊢; omega
              refine Ev.step (f := fun _ => some ((m : Int), true)) (fun k => ?_) (Ev.now _)
              simp only [impl_MostWithin.l1, tp, et.out, t0, t1, etop, hx, g1, em0.out, ↓reduceIte]
              rw [if_pos g2]
        · have b1 : ¬ (i : Int) < (l.length : Int) := by omega
          refine ⟨m, fun hml => ?_, fun _ => rfl, ?_⟩
          · refine Ev.step (f := fun _ => some ((m : Int), true)) (fun k => ?_) (Ev.now _)
            simp only [spec_MostWithin.l1, b1, et.out, t0, t1, etop, em.out, hx, ↓reduceIte]
          · have g1 : ((l.drop i).length : Int) = 0 := by omega
            refine Ev.step (f := fun _ => some ((m : Int), true)) (fun k => ?_) (Ev.now _)
            simp only [impl_MostWithin.l1, tp, et.out, t0, t1, etop, hx, g1, em0.out, ↓reduceIte]
theorem both_MostWithin (l : List Int) (d : Int) : ∃ r, Ev (fun k => spec_MostWithin.f k l d) r ∧ Ev (fun k => impl_MostWithin.f k l d) r := by
  obtain ⟨e1, e2⟩ := ev_limits d
  cases ho : ordB l with
  | false =>
    refine ⟨(0, false), ?_, ?_⟩
    · unfold spec_MostWithin.f
      refine Ev.bind (ev_l2Order l) ?_
      rw [ho]
      simp only [Bool.false_eq_true, ↓reduceIte]
      exact Ev.step (f := fun _ => some (0, false)) (fun k => by simp only [spec_MostWithin.j0, ↓reduceIte]) (Ev.now _)
    · unfold impl_MostWithin.f
      refine Ev.bind (ev_isOrder l) ?_
      rw [ho]
      simp only [Bool.false_eq_true, ↓reduceIte]
      exact Ev.step (f := fun _ => some (0, false)) (fun k => by simp only [impl_MostWithin.j0, ↓reduceIte]) (Ev.now _)
  | true =>
    cases hd : (decide (1 ≤ d) && decide (d ≤ 7)) with
    | false =>
      refine ⟨(0, false), ?_, ?_⟩
      · unfold spec_MostWithin.f
        refine Ev.bind (ev_l2Order l) ?_
        rw [ho]
        simp only [e1, hd, Option.bind_some, Bool.not_false, ↓reduceIte]
        exact Ev.step (f := fun _ => some (0, false)) (fun k => by simp only [spec_MostWithin.j0, ↓reduceIte]) (Ev.now _)
      · unfold impl_MostWithin.f
        refine Ev.bind (ev_isOrder l) ?_
        rw [ho]
        simp only [e2, hd, Option.bind_some, Bool.not_false, ↓reduceIte]
        exact Ev.step (f := fun _ => some (0, false)) (fun k => by simp only [impl_MostWithin.j0, ↓reduceIte]) (Ev.now _)
    | true =>
      obtain ⟨h1, h7⟩ := ordB_len ho
      have hd' := hd
      simp only [Bool.and_eq_true, decide_eq_true_eq] at hd'
      obtain ⟨r, a, _, b⟩ := both_loops l d h7 hd'.1 (2 * l.length + 1) 0 0 [] (by simp) rfl (by omega) (by simp; omega)
      refine ⟨(r, true), ?_, ?_⟩
      · unfold spec_MostWithin.f
        refine Ev.bind (ev_l2Order l) ?_
        rw [ho]
        simp only [e1, hd, Option.bind_some, Bool.not_true, ↓reduceIte]
        have c : (0 : Int) < (l.length : Int) := by omega
        exact Ev.step (f := fun k => spec_MostWithin.l0 k l d [] 0 0) (fun k => by simp only [spec_MostWithin.j0, Bool.false_eq_true, ↓reduceIte]) (Ev.step (fun k => by simp only [spec_MostWithin.l0, c, ↓reduceIte] <;> rfl) (a (by omega)))
      · unfold impl_MostWithin.f
        refine Ev.bind (ev_isOrder l) ?_
        rw [ho]
        simp only [e2, hd, Option.bind_some, Bool.not_true, ↓reduceIte]
        exact Ev.step (f := fun k => impl_MostWithin.l0 k l d [] 1) (fun k => by simp only [impl_MostWithin.j0, Bool.false_eq_true, ↓reduceIte]) (Ev.step (fun k => by simp only [impl_MostWithin.l0]; rfl) b)
/-! ### up to which number all can come out first -/
def mwE : Nat → Int → List Int → List Int → Int → Int
  | 0, _, _, _, next => next - 1
  | n + 1, d, rest, st, next =>
    if st.getLast? = some next then mwE n d rest st.dropLast (next + 1)
    else match rest with
      | [] => next - 1
      | x :: r => if (st.length : Int) = d then next - 1 else mwE n d r (st ++ [x]) next
theorem mwE_ge : ∀ (n : Nat) (d : Int) (rest st : List Int) (next : Int), next - 1 ≤ mwE n d rest st next
  | 0, _, _, _, _ => Int.le_refl _
  | n + 1, d, rest, st, next => by
    simp only [mwE]
    split
    · have := mwE_ge n d rest st.dropLast (next + 1)
      omega
    · split
      · exact Int.le_refl _
      · split
        · exact Int.le_refl _
        · exact mwE_ge n d _ _ next
theorem mwE_mono : ∀ (n : Nat) (d : Int) (rest st : List Int) (next : Int), (st.length : Int) ≤ d → mwE n d rest st next ≤ mwE n (d + 1) rest st next
  | 0, _, _, _, _, _ => Int.le_refl _
  | n + 1, d, rest, st, next, h => by
    simp only [mwE]
    split
    · exact mwE_mono n d rest st.dropLast (next + 1) (by rw [List.length_dropLast]; omega)
    · split
      · exact Int.le_refl _
      · rename_i x r
        have h2 : ¬ (st.length : Int) = d + 1 := by omega
        rw [if_neg h2]
        split
        · exact mwE_ge n (d + 1) _ _ next
        · exact mwE_mono n d _ _ next (by rw [List.length_append, List.length_singleton]; omega)
theorem ev_mwE (d : Int) : ∀ (n : Nat) (rest st : List Int) (next : Int), 2 * rest.length + st.length < n → rest.length + st.length ≤ 100 → 0 ≤ next → next + st.length + rest.length ≤ 1000 →
    Ev (fun k => impl_MostWithin.l1 k rest d st next) (mwE n d rest st next, true)
  | 0, rest, st, next, h, _, _, _ => by omega
  | n + 1, rest, st, next, h, hl, hn, hb => by
    have em := Aside0.mk (show wrap64 (next + 1) = next + 1 from wr (by omega) (by omega))
    have em0 := Aside0.mk (show wrap64 (next - 1) = next - 1 from wr (by omega) (by omega))
    have lim : st.length < 17592186044416 := by omega
    -- what stands when nothing is popped
    have push : st.getLast? ≠ some next → Ev (fun k => if (rest.length : Int) = 0 then some (next - 1, true) else if (st.length : Int) = d then some (next - 1, true) else if 0 < (rest.length : Int) then if st.length < 17592186044416 then if 1 ≤ (rest.length : Int) then impl_MostWithin.l0 k (rest.drop 1) d (st ++ [rd rest 0]) next else none else none else none) (mwE (n + 1) d rest st next, true) := by
      intro hne
      simp only [mwE]
      rw [if_neg hne]
      cases rest with
      | nil =>
        simp only [List.length_nil, Int.natCast_zero, ↓reduceIte]
        exact Ev.now _
      | cons x r =>
        have g1 : ¬ ((x :: r).length : Int) = 0 := by rw [List.length_cons]; omega
        have g3 : 0 < ((x :: r).length : Int) := by rw [List.length_cons]; omega
        have g4 : 1 ≤ ((x :: r).length : Int) := by rw [List.length_cons]; omega
        by_cases hd : (st.length : Int) = d
        · simp only [g1, hd, ↓reduceIte]
          exact Ev.now _
        · simp only [g1, hd, g3, g4, lim, ↓reduceIte]
          rw [List.length_cons] at h hl hb
          have ih := ev_mwE d n r (st ++ [x]) next (by rw [List.length_append, List.length_singleton]; omega) (by rw [List.length_append, List.length_singleton]; omega) hn (by rw [List.length_append, List.length_singleton]; omega)
          exact Ev.step (f := fun k => impl_MostWithin.l1 k ((x :: r).drop 1) d (st ++ [rd (x :: r) 0]) next) (fun k => by simp only [impl_MostWithin.l0]) ih
    rcases snoc_cases st with rfl | ⟨st, x, rfl⟩
    · have g0 : ¬ (([] : List Int).length : Int) > 0 := by simp
      have hne : ([] : List Int).getLast? ≠ some next := by simp
      refine Ev.step (fun k => ?_) (push hne)
      simp only [impl_MostWithin.l1, g0, em0.out, ↓reduceIte]
    · have hlen : (st ++ [x]).length = st.length + 1 := by simp
      rw [hlen] at h hl hb
      have et := Aside0.mk (show wrap64 (((st ++ [x]).length : Int) - 1) = (st.length : Int) from by rw [hlen, wr (by omega) (by omega)]; omega)
      have etop : rd (st ++ [x]) (st.length : Int) = x := by rw [rd_nat]; simp
      have t0 : 0 ≤ (st.length : Int) := by omega
      have t1 : (st.length : Int) < ((st ++ [x]).length : Int) := by rw [hlen]; omega
      have t2 : (st.length : Int) ≤ ((st ++ [x]).length : Int) := by rw [hlen]; omega
      have tp : ((st ++ [x]).length : Int) > 0 := by rw [hlen]; omega
      have etake : (st ++ [x]).take ((st.length : Int)).toNat = st := by rw [Int.toNat_natCast]; simp
      have hlast : (st ++ [x]).getLast? = some x := by simp
      by_cases hx : x = next
      · subst hx
        have hm : mwE (n + 1) d rest (st ++ [x]) x = mwE n d rest st (x + 1) := by
          simp only [mwE]
          rw [if_pos hlast, List.dropLast_concat]
        rw [hm]
        have ih := ev_mwE d n rest st (x + 1) (by omega) (by omega) (by omega) (by omega)
        exact Ev.step (fun k => by simp only [impl_MostWithin.l1, tp, et.out, t0, t1, t2, etop, etake, em.out, ↓reduceIte]) ih
      · have hne : (st ++ [x]).getLast? ≠ some next := by
          rw [hlast]
          exact fun e => hx (Option.some.inj e)
        refine Ev.step (fun k => ?_) (push hne)
        simp only [impl_MostWithin.l1, tp, et.out, t0, t1, t2, etop, hx, em0.out, ↓reduceIte]
theorem ev_MostI (l : List Int) (d : Int) (ho : ordB l = true) (hd : (decide (1 ≤ d) && decide (d ≤ 7)) = true) : Ev (fun k => impl_MostWithin.f k l d) (mwE 100 d l [] 1, true) := by
  obtain ⟨_, e2⟩ := ev_limits d
  obtain ⟨h1, h7⟩ := ordB_len ho
  unfold impl_MostWithin.f
  refine Ev.bind (ev_isOrder l) ?_
  rw [ho]
  simp only [e2, hd, Option.bind_some, Bool.not_true, ↓reduceIte]
  refine Ev.step (f := fun k => impl_MostWithin.l0 k l d ([] : List Int) 1) (fun k => by simp only [impl_MostWithin.j0, Bool.false_eq_true, ↓reduceIte]) ?_
  exact Ev.step (f := fun k => impl_MostWithin.l1 k l d ([] : List Int) 1) (fun k => by simp only [impl_MostWithin.l0]) (ev_mwE d 100 l [] 1 (by rw [List.length_nil]; omega) (by rw [List.length_nil]; omega) (by omega) (by rw [List.length_nil]; omega))
theorem both_Bubble (n : Nat) (hn : n ≤ 7) (d : Nat) : ∀ (j : Nat) (l : List Int), l.length = n → j + d + 1 = n →
    ∃ r : List Int, r.length = n ∧ Ev (fun k => spec_BubbleOrder.l0 k l (j : Int)) (r, true) ∧ Ev (fun k => impl_BubbleOrder.l0 k l (j : Int)) (r, true) := by
  induction d with
  | zero =>
    intro j l hl hj
    have e1 := Aside0.mk (show wrap64 ((j : Int) + 1) = ((j + 1 : Nat) : Int) from wj (by omega))
    have c : ¬ ((j + 1 : Nat) : Int) < (l.length : Int) := by omega
    refine ⟨l, hl, ?_, ?_⟩
    · exact Ev.step (f := fun _ => some (l, true)) (fun k => by simp only [spec_BubbleOrder.l0, e1.out, c, ↓reduceIte]) (Ev.now _)
    · exact Ev.step (f := fun _ => some (l, true)) (fun k => by simp only [impl_BubbleOrder.l0, e1.out, c, ↓reduceIte]) (Ev.now _)
  | succ d ih =>
    intro j l hl hj
    have e1 := Aside0.mk (show wrap64 ((j : Int) + 1) = ((j + 1 : Nat) : Int) from wj (by omega))
    have c : ((j + 1 : Nat) : Int) < (l.length : Int) := by omega
    have c0 : 0 ≤ (j : Int) := by omega
    have c1 : (j : Int) < (l.length : Int) := by omega
    have c2 : 0 ≤ ((j + 1 : Nat) : Int) := by omega
    obtain ⟨a, ha⟩ : ∃ a, a = rd l (j : Int) := ⟨_, rfl⟩
    obtain ⟨b, hb⟩ : ∃ b, b = rd l ((j + 1 : Nat) : Int) := ⟨_, rfl⟩
    by_cases h : a > b
    · obtain ⟨r, hr, h1, h2⟩ := ih (j + 1) ((l.set j b).set (j + 1) a) (by simp [hl]) (by omega)
      refine ⟨r, hr, ?_, ?_⟩
      · refine Ev.step (fun k => ?_) h1
        have g : ¬ a < b := by omega
        simp only [spec_BubbleOrder.l0, e1.out, c, c0, c1, c2, ↓reduceIte, spec_l1Least.f, spec_l1Most.f, ← ha, ← hb, h, g, Option.bind_some, Int.toNat_natCast]
      · refine Ev.step (fun k => ?_) h2
        simp only [impl_BubbleOrder.l0, e1.out, c, c0, c1, c2, ↓reduceIte, ← ha, ← hb, h, Int.toNat_natCast]
    · obtain ⟨r, hr, h1, h2⟩ := ih (j + 1) l hl (by omega)
      refine ⟨r, hr, ?_, ?_⟩
      · refine Ev.step (fun k => ?_) h1
        have least : spec_l1Least.f a b = some a := by
          unfold spec_l1Least.f
          by_cases g : a < b
          · rw [if_pos g]
          · rw [if_neg g, show a = b by omega]
        have most : spec_l1Most.f a b = some b := by unfold spec_l1Most.f; rw [if_neg h]
        simp only [spec_BubbleOrder.l0, e1.out, c, c0, c1, c2, ↓reduceIte, ← ha, ← hb, least, most, Option.bind_some, Int.toNat_natCast]
        rw [ha, hb, set_self l j (by omega), set_self l (j + 1) (by omega)]
      · refine Ev.step (fun k => ?_) h2
        simp only [impl_BubbleOrder.l0, e1.out, c, c0, c1, c2, ↓reduceIte, ← ha, ← hb, h]
theorem both_BubbleOrder (l : List Int) : ∃ (r : List Int) (b : Bool), r.length ≤ 7 ∧ Ev (fun k => spec_BubbleOrder.f k l) (r, b) ∧ Ev (fun k => impl_BubbleOrder.f k l) (r, b) := by
  obtain ⟨K1, h1⟩ := ev_l2Order l
  obtain ⟨K2, h2⟩ := ev_isOrder l
  cases ho : ordB l with
  | false =>
    refine ⟨[], false, by decide, ⟨K1, fun k hk => ?_⟩, ⟨K2, fun k hk => ?_⟩⟩
    · simp only [spec_BubbleOrder.f, h1 k hk, ho, Option.bind_some, Bool.false_eq_true, ↓reduceIte]
    · simp only [impl_BubbleOrder.f, h2 k hk, ho, Option.bind_some, Bool.false_eq_true, ↓reduceIte]
  | true =>
    obtain ⟨g1, g7⟩ := ordB_len ho
    obtain ⟨r, hr, ⟨K3, h3⟩, ⟨K4, h4⟩⟩ := both_Bubble l.length g7 (l.length - 1) 0 l rfl (by omega)
    have lim : l.length < 17592186044416 := by omega
    have lim' : ([] : List Int).length + l.length < 17592186044416 := by simp; omega
    refine ⟨r, true, by omega, ⟨K1 + K3, fun k hk => ?_⟩, ⟨K2 + K4, fun k hk => ?_⟩⟩
    · simp only [spec_BubbleOrder.f, h1 k (by omega), ho, Option.bind_some, spec_l1Own.f, lim', ↓reduceIte, List.nil_append]
      exact h3 k (by omega)
    · simp only [impl_BubbleOrder.f, h2 k (by omega), ho, Option.bind_some, slices_Clone_int_int.f, lim, ↓reduceIte]
      exact h4 k (by omega)
/-- How high the stack stands behind signs. -/
def hgt : List Int → Int → Option Int
  | [], h => some h
  | c :: t, h => if c = 73 then hgt t (h + 1) else if c = 79 then (if h - 1 < 0 then none else hgt t (h - 1)) else none
theorem hgt_append : ∀ (a b : List Int) (h : Int), hgt (a ++ b) h = (hgt a h).bind (hgt b)
  | [], b, h => rfl
  | c :: t, b, h => by
    simp only [List.cons_append, hgt]
    split
    · exact hgt_append t b _
    · split
      · split
        · rfl
        · exact hgt_append t b _
      · rfl
theorem hgt_byte : ∀ (l : List Int) (h r : Int), hgt l h = some r → ∀ c ∈ l, c = 73 ∨ c = 79
  | [], _, _, _ => by intro c hc; cases hc
  | x :: t, h, r, e => by
    intro c hc
    simp only [hgt] at e
    split at e
    · rcases List.mem_cons.1 hc with rfl | hc
      · exact .inl (by assumption)
      · exact hgt_byte t _ _ e c hc
    · split at e
      · split at e
        · cases e
        · rcases List.mem_cons.1 hc with rfl | hc
          · exact .inr (by assumption)
          · exact hgt_byte t _ _ e c hc
      · cases e
/-! ### any text: is it a word, and how deep -/
theorem hgt_par : ∀ (l : List Int) (h r : Int), hgt l h = some r → (l.length : Int) + h - r = 2 * (((l.length : Int) + h - r) / 2)
  | [], h, r, e => by
    obtain rfl := Option.some.inj e
    simp
  | c :: t, h, r, e => by
    rw [hgt] at e
    rw [List.length_cons]
    split at e
    · have := hgt_par t _ _ e
      omega
    · split at e
      · split at e
        · cases e
        · have := hgt_par t _ _ e
          omega
      · cases e
def depW : List Int → Int → Int → Int
  | [], _, M => M
  | c :: t, h, M => if c = 73 then depW t (h + 1) (mx M (h + 1)) else depW t (h - 1) (mx M (h - 1))
/-- Is a text a word? -/
def wordB (s : ByteArray) : Bool := decide (hgt (bs s) 0 = some 0) && (decide (2 ≤ s.size) && decide (s.size ≤ 14))
theorem ev_depthAny (s : ByteArray) (hs : s.size ≤ 1048576) : Ev (fun k => impl_depthOf.f k s) (if wordB s = true then (depW (bs s) 0 0, true) else (0, false)) := by
  have go : ∀ (m j : Nat) (h M : Int), j + m = s.size → 0 ≤ h → h ≤ j → Ev (fun k => impl_depthOf.l0 k s h M (s.size : Int) (j : Int)) (if hgt ((bs s).drop j) h = some 0 ∧ 2 ≤ s.size ∧ s.size ≤ 15 then (depW ((bs s).drop j) h M, true) else (0, false)) := by
    intro m
    induction m with
    | zero =>
      intro j h M hj h0 hhj
      rw [bs_end s j (by omega)]
      have c : ¬ (j : Int) < (s.size : Int) := by omega
      by_cases hh : h = 0
      · subst hh
        have e1 := Aside0.mk (show wrap64 ((s.size : Int) / 2) = ((s.size / 2 : Nat) : Int) from by rw [wr (by omega) (by omega)]; omega)
        by_cases hz : 2 ≤ s.size ∧ s.size ≤ 15
        · rw [if_pos ⟨rfl, hz⟩]
          have e2 : impl_isSize.f ((s.size / 2 : Nat) : Int) = some true := by
            rw [ev_isSize, decide_eq_true (by omega), decide_eq_true (by omega)]
            rfl
          exact Ev.step (f := fun _ => some (M, true)) (fun k => by simp only [impl_depthOf.l0, c, e1.out, e2, Option.bind_some, ↓reduceIte]) (Ev.now _)
        · rw [if_neg (fun k => hz k.2)]
          have e2 : impl_isSize.f ((s.size / 2 : Nat) : Int) = some false := by
            rw [ev_isSize]
            congr 1
            rw [Bool.and_eq_false_iff, decide_eq_false_iff_not, decide_eq_false_iff_not]
            omega
          exact Ev.step (f := fun _ => some (0, false)) (fun k => by simp only [impl_depthOf.l0, c, e1.out, e2, Option.bind_some, Bool.false_eq_true, ↓reduceIte]) (Ev.now _)
      · rw [if_neg (fun k => hh (Option.some.inj k.1))]
        exact Ev.step (f := fun _ => some (0, false)) (fun k => by simp only [impl_depthOf.l0, c, hh, ↓reduceIte]) (Ev.now _)
    | succ m ih =>
      intro j h M hj h0 hhj
      have c : (j : Int) < (s.size : Int) := by omega
      have c0 : 0 ≤ (j : Int) := by omega
      have e1 := Aside0.mk (show wrap64 ((j : Int) + 1) = ((j + 1 : Nat) : Int) from wj (by omega))
      have e2 := Aside0.mk (show wrap64 (h + 1) = h + 1 from wr (by omega) (by omega))
      have e3 := Aside0.mk (show wrap64 (h - 1) = h - 1 from wr (by omega) (by omega))
      rw [bs_drop s j (by omega), hgt, depW]
      by_cases h73 : bt s (j : Int) = 73
      · rw [if_pos h73, if_pos h73]
        have b := ih (j + 1) (h + 1) (mx M (h + 1)) (by omega) (by omega) (by omega)
        have n1 : ¬ h + 1 < 0 := by omega
        exact Ev.step (fun k => by simp only [impl_depthOf.l0, c, c0, h73, e2.out, n1, e1.out, ↓reduceIte]) b
      · rw [if_neg h73, if_neg h73]
        by_cases h79 : bt s (j : Int) = 79
        · rw [if_pos h79]
          by_cases n1 : h - 1 < 0
          · rw [if_pos n1, if_neg (fun k => by cases k.1)]
            refine Ev.step (f := fun _ => some (0, false)) (fun k => ?_) (Ev.now _)
            simp only [impl_depthOf.l0, c, c0, e3.out, n1, ↓reduceIte]
            rw [if_neg h73, if_pos h79]
          · rw [if_neg n1]
            have b := ih (j + 1) (h - 1) (mx M (h - 1)) (by omega) (by omega) (by omega)
            refine Ev.step (fun k => ?_) b
            simp only [impl_depthOf.l0, c, c0, e3.out, n1, e1.out, ↓reduceIte]
            rw [if_neg h73, if_pos h79]
        · rw [if_neg h79, if_neg (fun k => by cases k.1)]
          refine Ev.step (f := fun _ => some (0, false)) (fun k => ?_) (Ev.now _)
          simp only [impl_depthOf.l0, c, c0, ↓reduceIte]
          rw [if_neg h73, if_neg h79]
  have := go s.size 0 0 0 (by omega) (by omega) (by omega)
  rw [List.drop_zero] at this
  have e : (hgt (bs s) 0 = some 0 ∧ 2 ≤ s.size ∧ s.size ≤ 15) ↔ wordB s = true := by
    unfold wordB
    simp only [Bool.and_eq_true, decide_eq_true_eq]
    constructor
    · rintro ⟨h1, h2, h3⟩
      have := hgt_par _ _ _ h1
      rw [bs_length] at this
      exact ⟨h1, h2, by omega⟩
    · rintro ⟨h1, h2, h3⟩
      exact ⟨h1, h2, by omega⟩
  by_cases hw : wordB s = true
  · rw [if_pos hw]
    rw [if_pos (e.2 hw)] at this
    exact this
  · rw [if_neg hw]
    rw [if_neg (fun k => hw (e.1 k))] at this
    exact this
theorem ev_isWordAny (s : ByteArray) (hs : s.size ≤ 1048576) : Ev (fun k => impl_isWord.f k s) (wordB s) := by
  unfold impl_isWord.f
  refine Ev.bind (ev_depthAny s hs) ?_
  cases wordB s <;> exact Ev.now _
/-! ### more of limited sweeps -/
theorem mx_le {a b : Int} (h : b ≤ a) : mx a b = a := by unfold mx; omega
theorem depW_pops : ∀ (k : Nat) (t : List Int) (h M : Int), h ≤ M → depW (List.replicate k 79 ++ t) h M = depW t (h - (k : Int)) M
  | 0, t, h, M, _ => by simp
  | k + 1, t, h, M, hM => by
    rw [List.replicate_succ, List.cons_append]
    simp only [depW]
    rw [if_neg (by decide), mx_le (by omega), depW_pops k t _ _ (by omega), show h - 1 - (k : Int) = h - ((k + 1 : Nat) : Int) by omega]
theorem hgt_pops : ∀ (k : Nat) (t : List Int) (h : Int), (k : Int) ≤ h → hgt (List.replicate k 79 ++ t) h = hgt t (h - (k : Int))
  | 0, t, h, _ => by simp
  | k + 1, t, h, hk => by
    rw [List.replicate_succ, List.cons_append]
    simp only [hgt, show ¬ ((79 : Int) = 73) from by decide, ↓reduceIte]
    rw [if_neg (by omega), hgt_pops k t _ (by omega), show h - 1 - (k : Int) = h - ((k + 1 : Nat) : Int) by omega]
theorem lw_depth (d : Int) (hd : 1 ≤ d) : ∀ (l st : List Int) (M : Int), (st.length : Int) ≤ d → (st.length : Int) ≤ M → M ≤ d → hgt (lw d l st []) (st.length : Int) = some 0 ∧ depW (lw d l st []) (st.length : Int) M ≤ d
  | [], st, M, h1, h2, h3 => by
    simp only [lw, List.nil_append]
    have a := hgt_pops st.length [] (st.length : Int) (Int.le_refl _)
    have b := depW_pops st.length [] (st.length : Int) M h2
    rw [List.append_nil] at a b
    rw [a, b, Int.sub_self]
    exact ⟨rfl, h3⟩
  | n :: rest, st, M, h1, h2, h3 => by
    obtain ⟨e, hk⟩ := lwPop_drop n st
    simp only [lw]
    rw [e]
    generalize (lwPop n st).1 = k at hk
    have hlen : (st.drop k).length = st.length - k := List.length_drop
    by_cases c : ((st.drop k).length : Int) = d
    · rw [if_pos c, lw_out]
      have hk0 : k = 0 := by omega
      have hM : M = d := by omega
      have hne : 0 < (st.drop k).length := by omega
      have ht : ((n :: (st.drop k).tail).length : Int) = d := by rw [List.length_cons, List.length_tail]; omega
      have ih := lw_depth d hd rest (n :: (st.drop k).tail) M (by omega) (by omega) h3
      rw [ht] at ih
      rw [List.nil_append, List.append_assoc, List.append_assoc, hgt_pops k _ _ (by omega), depW_pops k _ _ _ h2, show (st.length : Int) - (k : Int) = d by omega]
      simp only [List.singleton_append, hgt, depW, show ¬ ((79 : Int) = 73) from by decide, ↓reduceIte]
      rw [if_neg (by omega), mx_le (a := M) (by omega), show d - 1 + 1 = d by omega, mx_le (by omega)]
      exact ih
    · rw [if_neg c, lw_out]
      have hle : (st.length : Int) - (k : Int) + 1 ≤ d := by omega
      have ht : ((n :: st.drop k).length : Int) = (st.length : Int) - (k : Int) + 1 := by rw [List.length_cons]; omega
      have hmx : mx M ((st.length : Int) - (k : Int) + 1) ≤ d ∧ (st.length : Int) - (k : Int) + 1 ≤ mx M ((st.length : Int) - (k : Int) + 1) := by unfold mx; omega
      have ih := lw_depth d hd rest (n :: st.drop k) (mx M ((st.length : Int) - (k : Int) + 1)) (by omega) (by omega) hmx.1
      rw [ht] at ih
      rw [List.nil_append, List.append_assoc, hgt_pops k _ _ (by omega), depW_pops k _ _ _ h2]
      simp only [List.singleton_append, hgt, depW, ↓reduceIte]
      exact ih
theorem sw_whole (d D : Int) : ∀ (l st o : List Int), (st.length : Int) + (l.length : Int) ≤ d → (st.length : Int) + (l.length : Int) ≤ D → sw d l st o = sw D l st o
  | [], st, o, _, _ => rfl
  | n :: rest, st, o, h1, h2 => by
    obtain ⟨_, hk⟩ := lwPop_drop n st
    rw [List.length_cons] at h1 h2
    simp only [sw]
    have hlen : (st.drop (lwPop n st).1).length = st.length - (lwPop n st).1 := List.length_drop
    rw [if_neg (by omega), if_neg (by omega)]
    exact sw_whole d D rest _ _ (by rw [List.length_cons]; omega) (by rw [List.length_cons]; omega)
theorem sw_one : ∀ (l st o : List Int), st.length ≤ 1 → sw 1 l st o = o ++ st ++ l
  | [], st, o, _ => by simp [sw]
  | n :: rest, [], o, _ => by
    simp only [sw, lwPop, List.drop_nil, List.length_nil, List.take_nil, List.append_nil]
    rw [if_neg (by decide), sw_one rest [n] o (by simp)]
    simp
  | n :: rest, [x], o, _ => by
    simp only [sw, lwPop]
    by_cases h : x < n
    · simp only [h, ↓reduceIte, Nat.zero_add, List.drop_succ_cons, List.drop_zero, List.length_nil, List.take_succ_cons, List.take_zero]
      rw [if_neg (by decide), sw_one rest [n] _ (by simp)]
      simp
    · simp only [h, ↓reduceIte, List.drop_zero, List.length_singleton, List.take_zero, List.append_nil, List.tail_cons, List.take_succ_cons]
      rw [if_pos (by decide), sw_one rest [n] _ (by simp)]
      simp
  | n :: rest, x :: y :: st, o, h => by simp only [List.length_cons] at h; omega
def bub : Int → List Int → List Int
  | x, [] => [x]
  | x, n :: r => if x > n then n :: bub x r else x :: bub n r
theorem bub_le {x n : Int} (r : List Int) (h : n ≤ x) : bub x (n :: r) = n :: bub x r := by
  simp only [bub]
  by_cases hx : x > n
  · rw [if_pos hx]
  · have : x = n := by omega
    rw [if_neg hx, this]
theorem sw_two : ∀ (r : List Int), (∀ (x : Int) (o : List Int), sw 2 r [x] o = o ++ bub x r) ∧ (∀ (n x : Int) (o : List Int), n ≤ x → sw 2 r [n, x] o = o ++ n :: bub x r)
  | [] => ⟨fun x o => rfl, fun n x o _ => rfl⟩
  | m :: r => by
    obtain ⟨ih1, ih2⟩ := sw_two r
    refine ⟨fun x o => ?_, fun n x o h => ?_⟩
    · simp only [sw, lwPop]
      by_cases hx : x < m
      · simp only [hx, ↓reduceIte, Nat.zero_add, List.drop_succ_cons, List.drop_zero, List.length_nil, List.take_succ_cons, List.take_zero]
        rw [if_neg (by decide), ih1 m]
        simp only [bub]
        rw [if_neg (by omega)]
        simp
      · simp only [hx, ↓reduceIte, List.drop_zero, List.length_singleton, List.take_zero, List.append_nil]
        rw [if_neg (by decide), ih2 m x o (by omega), bub_le r (by omega)]
    · simp only [sw, lwPop]
      by_cases hn : n < m
      · by_cases hx : x < m
        · simp only [hn, hx, ↓reduceIte, Nat.zero_add, List.drop_succ_cons, List.drop_zero, List.length_nil, List.take_succ_cons, List.take_zero]
          rw [if_neg (by decide), ih1 m]
          simp only [bub]
          rw [if_neg (by omega)]
          simp
        · simp only [hn, hx, ↓reduceIte, Nat.zero_add, List.drop_succ_cons, List.drop_zero, List.length_singleton, List.take_succ_cons, List.take_zero]
          rw [if_neg (by decide), ih2 m x _ (by omega), bub_le r (by omega)]
          simp
      · simp only [hn, ↓reduceIte, List.drop_zero, List.length_cons, List.length_nil, List.take_zero, List.append_nil, List.tail_cons, List.take_succ_cons]
        rw [if_pos (by decide), ih2 m x _ (by omega), bub_le r (by omega)]
        simp
theorem ev_bub : ∀ (r pre : List Int) (x : Int), pre.length + r.length ≤ 100 → Ev (fun k => impl_BubbleOrder.l0 k (pre ++ x :: r) (pre.length : Int)) (pre ++ bub x r, true)
  | [], pre, x, h => by
    have e1 := Aside0.mk (show wrap64 ((pre.length : Int) + 1) = ((pre.length + 1 : Nat) : Int) from wj (by omega))
    have c : ¬ ((pre.length + 1 : Nat) : Int) < ((pre ++ [x]).length : Int) := by rw [List.length_append, List.length_singleton]; omega
    exact Ev.step (f := fun _ => some (pre ++ [x], true)) (fun k => by simp only [impl_BubbleOrder.l0, e1.out, c, ↓reduceIte]) (Ev.now _)
  | n :: r, pre, x, h => by
    rw [List.length_cons] at h
    have hl : (pre ++ x :: n :: r).length = pre.length + (r.length + 2) := by rw [List.length_append, List.length_cons, List.length_cons]
    have e1 := Aside0.mk (show wrap64 ((pre.length : Int) + 1) = ((pre.length + 1 : Nat) : Int) from wj (by omega))
    have c : ((pre.length + 1 : Nat) : Int) < ((pre ++ x :: n :: r).length : Int) := by rw [hl]; omega
    have c0 : 0 ≤ (pre.length : Int) := by omega
    have c1 : (pre.length : Int) < ((pre ++ x :: n :: r).length : Int) := by rw [hl]; omega
    have c2 : 0 ≤ ((pre.length + 1 : Nat) : Int) := by omega
    have ea : rd (pre ++ x :: n :: r) (pre.length : Int) = x := by rw [rd_nat]; simp
    have eb : rd (pre ++ x :: n :: r) ((pre.length + 1 : Nat) : Int) = n := by
      rw [rd_nat, List.getD_eq_getElem?_getD, List.getElem?_append_right (by omega), Nat.add_sub_cancel_left]
      rfl
    by_cases hx : x > n
    · have hs : ((pre ++ x :: n :: r).set pre.length n).set (pre.length + 1) x = (pre ++ [n]) ++ x :: r := by
        rw [List.set_append_right _ _ (Nat.le_refl _), Nat.sub_self, List.set_cons_zero, List.set_append_right _ _ (by omega), Nat.add_sub_cancel_left, List.set_cons_succ, List.set_cons_zero]
        simp
      have ih := ev_bub r (pre ++ [n]) x (by rw [List.length_append, List.length_singleton]; omega)
      rw [List.length_append, List.length_singleton] at ih
      have hb : pre ++ bub x (n :: r) = (pre ++ [n]) ++ bub x r := by
        simp only [bub]
        rw [if_pos hx]
        simp
      rw [hb]
      exact Ev.step (fun k => by simp only [impl_BubbleOrder.l0, e1.out, c, c0, c1, c2, ea, eb, hx, hs, ↓reduceIte, Int.toNat_natCast]) ih
    · have ih := ev_bub r (pre ++ [x]) n (by rw [List.length_append, List.length_singleton]; omega)
      rw [List.length_append, List.length_singleton] at ih
      have hb : pre ++ bub x (n :: r) = (pre ++ [x]) ++ bub n r := by
        simp only [bub]
        rw [if_neg hx]
        simp
      have hc : pre ++ x :: n :: r = (pre ++ [x]) ++ n :: r := by simp
      rw [hb]
      refine Ev.step (fun k => ?_) ih
      simp only [impl_BubbleOrder.l0, e1.out, c, c0, c1, c2, ea, eb, hx, ↓reduceIte]
      rw [hc]
theorem ev_rSorted (l : List Int) (hl : l.length ≤ 1000) : Ev (fun k => laws_rSorted.f k l) (decide (l = iota 1 l.length)) := by
  have go : ∀ (m j : Nat), j + m = l.length → ∃ b, Ev (fun k => laws_rSorted.l0 k l (j : Int)) b ∧ (b = true ↔ ∀ i : Nat, j ≤ i → i < l.length → rd l (i : Int) = (i : Int) + 1) := by
    intro m
    induction m with
    | zero =>
      intro j hj
      have c : ¬ (j : Int) < (l.length : Int) := by omega
      exact ⟨true, Ev.step (f := fun _ => some true) (fun k => by simp only [laws_rSorted.l0, c, ↓reduceIte]) (Ev.now _), fun _ i h1 h2 => by omega, fun _ => rfl⟩
    | succ m ih =>
      intro j hj
      have c : (j : Int) < (l.length : Int) := by omega
      have c0 : 0 ≤ (j : Int) := by omega
      have e1 := Aside0.mk (show wrap64 ((j : Int) + 1) = ((j + 1 : Nat) : Int) from wj (by omega))
      by_cases h : rd l (j : Int) = ((j + 1 : Nat) : Int)
      · obtain ⟨b, hb, hi⟩ := ih (j + 1) (by omega)
        refine ⟨b, Ev.step (fun k => by simp only [laws_rSorted.l0, c, c0, e1.out, h, ↓reduceIte]) hb, hi.trans ⟨fun g i h1 h2 => ?_, fun g i h1 h2 => g i (by omega) h2⟩⟩
        by_cases hij : i = j
        · rw [hij, h]; omega
        · exact g i (by omega) h2
      · refine ⟨false, Ev.step (f := fun _ => some false) (fun k => by simp only [laws_rSorted.l0, c, c0, e1.out, h, ↓reduceIte]) (Ev.now _), fun g => absurd g Bool.false_ne_true, fun g => ?_⟩
        have := g j (Nat.le_refl _) (by omega)
        exact absurd (by omega) h
  obtain ⟨b, hb, hi⟩ := go l.length 0 (Nat.zero_add _)
  have : b = decide (l = iota 1 l.length) := by
    rw [Bool.eq_iff_iff, hi, decide_eq_true_iff]
    constructor
    · intro g
      refine List.ext_getElem (by rw [iota_length]) fun i h1 h2 => ?_
      have := g i (Nat.zero_le _) h1
      rw [rd_get l i h1] at this
      rw [this]
      simp [iota]
      omega
    · intro g i _ h2
      rw [g, rd_iota 1 l.length i h2]
      omega
  rw [← this]
  exact hb
/-! ### draws: each tells something, and reads a bounded number of choices -/
def Bytes (s : List Int) : Prop := ∀ x ∈ s, 0 ≤ x ∧ x ≤ 255
theorem bytes_of {l : List Int} (h : ∀ x ∈ l, (Lit.int .u8 x).wf = true) : Bytes l := by
  intro x hx
  exact bounds_u8 (h x hx)
theorem u64r (x : Int) : 0 ≤ IntKind.u64.wrap x ∧ IntKind.u64.wrap x < 18446744073709551616 := by
  simp [IntKind.wrap, IntKind.bits, IntKind.signed]
  omega
theorem and255 (y : Int) (h0 : 0 ≤ y) (h1 : y < 18446744073709551616) : 0 ≤ Go.bits .and .u64 (y / 1099511627776) 255 ∧ Go.bits .and .u64 (y / 1099511627776) 255 ≤ 255 := by
  have h := bits_mask .u64 63 (by decide) (fun n a b => by simp [IntKind.wrap, IntKind.bits, IntKind.signed]; omega) 8 (by decide) (y / 1099511627776) (by omega) (by omega)
  have e : ((2 : Int) ^ 8 - 1) = 255 := by decide
  have e2 : ((2 : Int) ^ 8) = 256 := by decide
  rw [e, e2] at h
  rw [h]
  omega
theorem rd_byte {s : List Int} (hs : Bytes s) (i : Int) (h0 : 0 ≤ i) (h1 : i < (s.length : Int)) : 0 ≤ rd s i ∧ rd s i ≤ 255 := by
  have e := rd_get s i.toNat (by omega)
  rw [Int.toNat_of_nonneg h0] at e
  rw [e]
  exact hs _ (List.getElem_mem _)
theorem next_ok {s : List Int} (hs : Bytes s) (a sd : Int) (h0 : 0 ≤ a) (h1 : a ≤ 4611686018427387904) : ∃ b sd', spec_l1Cur_next.f s a sd = some (b, a + 1, sd') ∧ 0 ≤ b ∧ b ≤ 255 := by
  unfold spec_l1Cur_next.f
  have e : Aside0 (wrap64 (a + 1) = a + 1) := ⟨wr (by omega) (by omega)⟩
  rw [e.out]
  by_cases c : a < (s.length : Int)
  · have c2 : a + 1 ≤ (s.length : Int) := by omega
    have hb := rd_byte hs a h0 c
    rw [if_pos c, if_pos h0, if_pos c2]
    refine ⟨_, _, rfl, ?_, ?_⟩ <;> rw [wr (by omega) (by omega)] <;> omega
  · have c2 : ¬ a + 1 ≤ (s.length : Int) := by omega
    rw [if_neg c, if_neg c2]
    have hr := u64r (IntKind.u64.wrap (IntKind.u64.wrap (sd * 6364136223846793005)) + 462197)
    have ha := and255 _ hr.1 hr.2
    refine ⟨_, _, rfl, ?_, ?_⟩ <;> rw [wr (by omega) (by omega)] <;> omega
theorem pick_ok {s : List Int} (hs : Bytes s) (a sd n : Int) (h0 : 0 ≤ a) (h1 : a ≤ 1000000000) : ∃ r a' sd', spec_l1Cur_pick.f s a sd n = some (r, a', sd') ∧ 0 ≤ r ∧ (r < n ∨ r = 0) ∧ a ≤ a' ∧ a' ≤ a + 2 := by
  unfold spec_l1Cur_pick.f
  by_cases c : n ≤ 1
  · rw [if_pos c]
    exact ⟨0, a, sd, rfl, by omega, .inr rfl, by omega, by omega⟩
  · rw [if_neg c]
    obtain ⟨b, s1, e1, hb0, hb1⟩ := next_ok hs a sd h0 (by omega)
    rw [e1, Option.bind_some]
    have c0 : ¬ n = 0 := by omega
    by_cases c2 : n > 200
    · obtain ⟨b2, s2, e2, hc0, hc1⟩ := next_ok hs (a + 1) s1 (by omega) (by omega)
      rw [if_pos c2, e2, Option.bind_some, if_neg c0]
      refine ⟨_, _, _, rfl, ?_, .inl ?_, by dsimp only; omega, by dsimp only; omega⟩
      · rw [wr (i := b * 256) (by omega) (by omega), wr (by omega) (by omega)]
        exact Int.tmod_nonneg _ (by omega)
      · rw [wr (i := b * 256) (by omega) (by omega), wr (by omega) (by omega)]
        exact Int.tmod_lt_of_pos _ (by omega)
    · rw [if_neg c2, if_neg c0]
      exact ⟨_, _, _, rfl, Int.tmod_nonneg _ (by omega), .inl (Int.tmod_lt_of_pos _ (by omega)), by dsimp only; omega, by dsimp only; omega⟩
theorem one_ok {s : List Int} (hs : Bytes s) (a sd n : Int) (h0 : 0 ≤ a) (h1 : a ≤ 1000000000) : ∃ r a' sd', spec_l1Cur_one.f s a sd n = some (r, a', sd') ∧ a ≤ a' ∧ a' ≤ a + 2 := by
  unfold spec_l1Cur_one.f
  obtain ⟨r, a', s', e, _, _, h2, h3⟩ := pick_ok hs a sd n h0 h1
  rw [e]
  exact ⟨_, _, _, rfl, h2, h3⟩
theorem rd_memI (l : List Int) (i : Int) (h0 : 0 ≤ i) (h1 : i < (l.length : Int)) : rd l i ∈ l := by
  have e := rd_get l i.toNat (by omega)
  rw [Int.toNat_of_nonneg h0] at e
  rw [e]
  exact List.getElem_mem _
theorem among_ok {s : List Int} (hs : Bytes s) (a sd : Int) (l : List Int) (h0 : 0 ≤ a) (h1 : a ≤ 1000000000) (hl : 0 < l.length) : ∃ r a' sd', spec_l1Cur_among.f s a sd l = some (r, a', sd') ∧ r ∈ l ∧ a ≤ a' ∧ a' ≤ a + 2 := by
  unfold spec_l1Cur_among.f
  obtain ⟨r, a', s', e, k0, k1, h2, h3⟩ := pick_ok hs a sd (l.length : Int) h0 h1
  have c : r < (l.length : Int) := by rcases k1 with k1 | k1 <;> omega
  rw [e, Option.bind_some, if_pos k0, if_pos c]
  exact ⟨_, _, _, rfl, rd_memI l r k0 c, h2, h3⟩
theorem size_to (t : ByteArray) (i : Nat) : (t.extract 0 i).size ≤ i ∧ (t.extract 0 i).size ≤ t.size := by
  rw [ByteArray.size_extract]
  omega
theorem size_from (t : ByteArray) (i : Nat) : (t.extract i t.size).size = t.size - i := by
  rw [ByteArray.size_extract]
  omega
theorem spoilt_ok {s : List Int} (hs : Bytes s) (a sd : Int) (t v : ByteArray) (h0 : 0 ≤ a) (h1 : a ≤ 1000000) (ht : t.size ≤ 1000000) (hv : 1 ≤ v.size ∧ v.size ≤ 1000) :
    ∃ r a' sd', spec_l1Cur_spoilt.f s a sd t v = some (r, a', sd') ∧ r.size ≤ t.size + 1 ∧ a ≤ a' ∧ a' ≤ a + 6 := by
  unfold spec_l1Cur_spoilt.f
  by_cases c : t.size = 0
  · have c2 : (1 : Int) ≤ (v.size : Int) := by omega
    rw [if_pos c, if_pos c2]
    have := size_to v 1
    exact ⟨_, _, _, rfl, by omega, by omega, by omega⟩
  · rw [if_neg c]
    obtain ⟨i, a1, s1, e1, i0, i1, p1, q1⟩ := pick_ok hs a sd (t.size : Int) h0 (by omega)
    have hi : i < (t.size : Int) := by rcases i1 with h | h <;> omega
    obtain ⟨j, a2, s2, e2, j0, j1, p2, q2⟩ := pick_ok hs a1 s1 (v.size : Int) (by omega) (by omega)
    have hj : j < (v.size : Int) := by rcases j1 with h | h <;> omega
    obtain ⟨m, a3, s3, e3, m0, m1, p3, q3⟩ := pick_ok hs a2 s2 3 (by omega) (by omega)
    rw [e1]
    simp only [Option.bind_some]
    rw [e2]
    simp only [Option.bind_some]
    rw [e3]
    simp only [Option.bind_some]
    rw [if_pos ⟨i0, by omega, j0, by omega, by omega, by omega⟩]
    refine ⟨_, _, _, rfl, ?_, by omega, by omega⟩
    have z1 := size_to t i.toNat
    have z2 := size_to (v.extract j.toNat v.size) 1
    have z3 := size_from t i.toNat
    have z4 := size_from t (i + 1).toNat
    by_cases m2 : m = 0
    · rw [if_pos m2]
      simp only [size_append]
      omega
    · rw [if_neg m2]
      by_cases m3 : m = 1
      · rw [if_pos m3]
        simp only [size_append]
        omega
      · rw [if_neg m3]
        simp only [size_append]
        omega
/-! ### draws of orders, words and beginnings -/
theorem own_eq (l : List Int) (hl : l.length ≤ 100000) : spec_l1Own.f l = some l := by
  unfold spec_l1Own.f
  have c : ([] : List Int).length + l.length < 17592186044416 := by rw [List.length_nil]; omega
  simp only [Option.bind_some, c, ↓reduceIte, List.nil_append]
theorem order_loop {s : List Int} (hs : Bytes s) : ∀ (n : Nat) (x : List Int) (a sd : Int), n + x.length ≤ 100 → 0 < n + x.length → 0 ≤ a → a + 2 * (n : Int) ≤ 10000 →
    ∃ o a' sd', Ev (fun k => spec_l1Cur_order.l0 k x (n : Int) s a sd) (o, a', sd') ∧ o.length ≤ 100 ∧ a ≤ a' ∧ a' ≤ a + 2 * (n : Int) + 6 := by
  intro n
  induction n with
  | zero =>
    intro x a sd hx hp h0 h1
    have c : ¬ ((0 : Nat) : Int) > 0 := by omega
    obtain ⟨m, a1, s1, e1, m0, m1, p1, q1⟩ := pick_ok hs a sd 40 h0 (by omega)
    by_cases c0 : m = 0
    · refine ⟨[], a1, s1, Ev.step (f := fun k => spec_l1Cur_order.l0 (k + 1) x ((0 : Nat) : Int) s a sd) (fun k => rfl) ?_, by decide, by omega, by omega⟩
      simp only [spec_l1Cur_order.l0, c, ↓reduceIte]
      refine Ev.bind (a := (m, a1, s1)) ⟨0, fun _ _ => e1⟩ ?_
      simp only [c0, ↓reduceIte]
      exact Ev.now _
    · by_cases c1 : m = 1
      · obtain ⟨i, a2, s2, e2, i0, i1, p2, q2⟩ := pick_ok hs a1 s1 (x.length : Int) (by omega) (by omega)
        obtain ⟨v, a3, s3, e3, _, p3, q3⟩ := among_ok hs a2 s2 ([0, 1, 8, (-1)] : List Int) (by omega) (by omega) (by decide)
        have ci : i < (x.length : Int) := by rcases i1 with h | h <;> omega
        refine ⟨x.set i.toNat v, a3, s3, Ev.step (f := fun k => spec_l1Cur_order.l0 (k + 1) x ((0 : Nat) : Int) s a sd) (fun k => rfl) ?_, by rw [List.length_set]; omega, by omega, by omega⟩
        simp only [spec_l1Cur_order.l0, c, ↓reduceIte]
        refine Ev.bind (a := (m, a1, s1)) ⟨0, fun _ _ => e1⟩ ?_
        simp only [c0, c1, ↓reduceIte]
        refine Ev.bind (a := (i, a2, s2)) ⟨0, fun _ _ => e2⟩ ?_
        refine Ev.bind (a := (v, a3, s3)) ⟨0, fun _ _ => e3⟩ ?_
        simp only [i0, ci, ↓reduceIte]
        exact Ev.now _
      · by_cases c2 : m = 2
        · refine ⟨[1, 2, 3, 4, 5, 6, 7, 8], a1, s1, Ev.step (f := fun k => spec_l1Cur_order.l0 (k + 1) x ((0 : Nat) : Int) s a sd) (fun k => rfl) ?_, by decide, by omega, by omega⟩
          simp only [spec_l1Cur_order.l0, c, ↓reduceIte]
          refine Ev.bind (a := (m, a1, s1)) ⟨0, fun _ _ => e1⟩ ?_
          simp only [c0, c1, c2, ↓reduceIte]
          exact Ev.now _
        · refine ⟨x, a1, s1, Ev.step (f := fun k => spec_l1Cur_order.l0 (k + 1) x ((0 : Nat) : Int) s a sd) (fun k => rfl) ?_, by omega, by omega, by omega⟩
          simp only [spec_l1Cur_order.l0, c, ↓reduceIte]
          refine Ev.bind (a := (m, a1, s1)) ⟨0, fun _ _ => e1⟩ ?_
          simp only [c0, c1, c2, ↓reduceIte]
          exact Ev.now _
  | succ n ih =>
    intro x a sd hx hp h0 h1
    have c : ((n + 1 : Nat) : Int) > 0 := by omega
    have ew := Aside0.mk (show wrap64 (((n + 1 : Nat) : Int) - 1) = (n : Int) from by rw [wr (by omega) (by omega)]; omega)
    have el := Aside0.mk (show wrap64 ((x.length : Int) + 1) = (x.length : Int) + 1 from wr (by omega) (by omega))
    obtain ⟨i, a1, s1, e1, i0, i1, p1, q1⟩ := pick_ok hs a sd ((x.length : Int) + 1) h0 (by omega)
    have ci : i ≤ (x.length : Int) := by rcases i1 with h | h <;> omega
    have ht : (x.take i.toNat).length ≤ x.length := by rw [List.length_take]; omega
    have hd : (x.drop i.toNat).length = x.length - i.toNat := List.length_drop
    have ht2 : (x.take i.toNat).length = i.toNat := by rw [List.length_take]; omega
    have hL : (x.take i.toNat ++ [(x.length : Int) + 1] ++ x.drop i.toNat).length = x.length + 1 := by rw [List.length_append, List.length_append, List.length_singleton]; omega
    have k1 : (x.take i.toNat).length + ([(x.length : Int) + 1] : List Int).length < 17592186044416 := by rw [List.length_singleton]; omega
    have k2 : (x.take i.toNat ++ [(x.length : Int) + 1]).length + (x.drop i.toNat).length < 17592186044416 := by rw [List.length_append, List.length_singleton]; omega
    obtain ⟨o, a', sd', hf, zo, p2, q2⟩ := ih (x.take i.toNat ++ [(x.length : Int) + 1] ++ x.drop i.toNat) a1 s1 (by rw [hL]; omega) (by rw [hL]; omega) (by omega) (by omega)
    refine ⟨o, a', sd', Ev.step (f := fun k => spec_l1Cur_order.l0 (k + 1) x ((n + 1 : Nat) : Int) s a sd) (fun k => rfl) ?_, zo, by omega, by omega⟩
    simp only [spec_l1Cur_order.l0, c, ew.out, el.out, ↓reduceIte]
    refine Ev.bind (a := (i, a1, s1)) ⟨0, fun _ _ => e1⟩ ?_
    simp only [i0, ci, own_eq (x.take i.toNat) (by omega), Option.bind_some, k1, k2, ↓reduceIte]
    exact hf
theorem order_ok {s : List Int} (hs : Bytes s) (a sd : Int) (h0 : 0 ≤ a) (h1 : a ≤ 1000) : ∃ o a' sd', Ev (fun k => spec_l1Cur_order.f k s a sd) (o, a', sd') ∧ o.length ≤ 100 ∧ a ≤ a' ∧ a' ≤ a + 30 := by
  obtain ⟨v, a1, s1, e1, hv, p1, q1⟩ := among_ok hs a sd ([4, 5, 3, 6, 2, 7, 1, 4] : List Int) h0 (by omega) (by decide)
  have hv2 : 1 ≤ v ∧ v ≤ 7 := (by decide : ∀ v ∈ ([4, 5, 3, 6, 2, 7, 1, 4] : List Int), 1 ≤ v ∧ v ≤ 7) v hv
  obtain ⟨n, hn⟩ : ∃ n : Nat, v = (n : Int) := ⟨v.toNat, by omega⟩
  subst hn
  obtain ⟨o, a', sd', hf, zo, p2, q2⟩ := order_loop hs n [] a1 s1 (by rw [List.length_nil]; omega) (by rw [List.length_nil]; omega) (by omega) (by omega)
  refine ⟨o, a', sd', ?_, zo, by omega, by omega⟩
  unfold spec_l1Cur_order.f
  exact Ev.bind (a := ((n : Int), a1, s1)) ⟨0, fun _ _ => e1⟩ hf
theorem word_loop {s : List Int} (hs : Bytes s) (n : Int) (hn : 0 ≤ n ∧ n ≤ 100) : ∀ (d : Nat) (w : ByteArray) (i a sd : Int), (w.size : Int) + d = 2 * n → -1000 ≤ i - (d : Int) → i + (d : Int) ≤ 1000 → 0 ≤ a → a + 2 * (d : Int) ≤ 10000 →
    ∃ w' a' sd', Ev (fun k => spec_l1Cur_word.l0 k n w i s a sd) (w', a', sd') ∧ w'.size ≤ 300 ∧ a ≤ a' ∧ a' ≤ a + 2 * (d : Int) + 10 := by
  intro d
  induction d with
  | zero =>
    intro w i a sd hw _ _ h0 h1
    have e2 := Aside0.mk (show wrap64 (2 * n) = 2 * n from wr (by omega) (by omega))
    have c : ¬ (w.size : Int) < 2 * n := by omega
    obtain ⟨b, a1, s1, e1, p1, q1⟩ := one_ok hs a sd 24 h0 (by omega)
    cases b with
    | true =>
      obtain ⟨t, a2, s2, e3, z, p2, q2⟩ := spoilt_ok hs a1 s1 w (⟨#[73, 79, 88]⟩ : ByteArray) (by omega) (by omega) (by omega) (by decide)
      refine ⟨t, a2, s2, Ev.step (f := fun k => spec_l1Cur_word.l0 (k + 1) n w i s a sd) (fun k => rfl) ?_, by omega, by omega, by omega⟩
      simp only [spec_l1Cur_word.l0, e2.out, c, ↓reduceIte]
      refine Ev.bind (a := (true, a1, s1)) ⟨0, fun _ _ => e1⟩ ?_
      simp only [↓reduceIte]
      exact Ev.bind (a := (t, a2, s2)) ⟨0, fun _ _ => e3⟩ (Ev.now _)
    | false =>
      refine ⟨w, a1, s1, Ev.step (f := fun k => spec_l1Cur_word.l0 (k + 1) n w i s a sd) (fun k => rfl) ?_, by omega, by omega, by omega⟩
      simp only [spec_l1Cur_word.l0, e2.out, c, ↓reduceIte]
      refine Ev.bind (a := (false, a1, s1)) ⟨0, fun _ _ => e1⟩ ?_
      simp only [Bool.false_eq_true, ↓reduceIte]
      exact Ev.now _
  | succ d ih =>
    intro w i a sd hw hi1 hi2 h0 h1
    have e2 := Aside0.mk (show wrap64 (2 * n) = 2 * n from wr (by omega) (by omega))
    have e3 := Aside0.mk (show wrap64 (2 * n - (w.size : Int)) = 2 * n - (w.size : Int) from wr (by omega) (by omega))
    have e4 := Aside0.mk (show wrap64 (i + 1) = i + 1 from wr (by omega) (by omega))
    have e5 := Aside0.mk (show wrap64 (i - 1) = i - 1 from wr (by omega) (by omega))
    have c : (w.size : Int) < 2 * n := by omega
    have z : w.size + 1 ≤ 9223372036854775807 := by omega
    have zI : ((w ++ (⟨#[73]⟩ : ByteArray)).size : Int) + (d : Int) = 2 * n := by rw [size_append, show (⟨#[73]⟩ : ByteArray).size = 1 from rfl]; omega
    have zO : ((w ++ (⟨#[79]⟩ : ByteArray)).size : Int) + (d : Int) = 2 * n := by rw [size_append, show (⟨#[79]⟩ : ByteArray).size = 1 from rfl]; omega
    by_cases c0 : i = 0
    · obtain ⟨w', a', sd', hf, hz, p2, q2⟩ := ih (w ++ (⟨#[73]⟩ : ByteArray)) (i + 1) a sd zI (by omega) (by omega) h0 (by omega)
      refine ⟨w', a', sd', Ev.step (fun k => ?_) hf, hz, by omega, by omega⟩
      simp only [spec_l1Cur_word.l0, e2.out, c, c0, z, ↓reduceIte]
      rw [← c0, e4.out]
    · by_cases c1 : i < 2 * n - (w.size : Int)
      · obtain ⟨b, a1, s1, e1, p1, q1⟩ := one_ok hs a sd 2 h0 (by omega)
        cases b with
        | true =>
          obtain ⟨w', a', sd', hf, hz, p2, q2⟩ := ih (w ++ (⟨#[73]⟩ : ByteArray)) (i + 1) a1 s1 zI (by omega) (by omega) (by omega) (by omega)
          refine ⟨w', a', sd', Ev.step (f := fun k => spec_l1Cur_word.l0 (k + 1) n w i s a sd) (fun k => rfl) ?_, hz, by omega, by omega⟩
          simp only [spec_l1Cur_word.l0, e2.out, e3.out, e4.out, c, c0, c1, ↓reduceIte]
          refine Ev.bind (a := (true, a1, s1)) ⟨0, fun _ _ => e1⟩ ?_
          simp only [z, ↓reduceIte]
          exact hf
        | false =>
          obtain ⟨w', a', sd', hf, hz, p2, q2⟩ := ih (w ++ (⟨#[79]⟩ : ByteArray)) (i - 1) a1 s1 zO (by omega) (by omega) (by omega) (by omega)
          refine ⟨w', a', sd', Ev.step (f := fun k => spec_l1Cur_word.l0 (k + 1) n w i s a sd) (fun k => rfl) ?_, hz, by omega, by omega⟩
          simp only [spec_l1Cur_word.l0, e2.out, e3.out, e5.out, c, c0, c1, ↓reduceIte]
          refine Ev.bind (a := (false, a1, s1)) ⟨0, fun _ _ => e1⟩ ?_
          simp only [Bool.false_eq_true, z, ↓reduceIte]
          exact hf
      · obtain ⟨w', a', sd', hf, hz, p2, q2⟩ := ih (w ++ (⟨#[79]⟩ : ByteArray)) (i - 1) a sd zO (by omega) (by omega) h0 (by omega)
        refine ⟨w', a', sd', Ev.step (fun k => ?_) hf, hz, by omega, by omega⟩
        simp only [spec_l1Cur_word.l0, e2.out, e3.out, e5.out, c, c0, c1, z, ↓reduceIte]
theorem word_ok {s : List Int} (hs : Bytes s) (a sd n : Int) (h0 : 0 ≤ a) (h1 : a ≤ 1000) (hn : 0 ≤ n ∧ n ≤ 100) : ∃ w a' sd', Ev (fun k => spec_l1Cur_word.f k s a sd n) (w, a', sd') ∧ w.size ≤ 300 ∧ a ≤ a' ∧ a' ≤ a + 500 := by
  obtain ⟨w, a', sd', hf, z, p, q⟩ := word_loop hs n hn (2 * n).toNat (⟨#[]⟩ : ByteArray) 0 a sd (by rw [show (⟨#[]⟩ : ByteArray).size = 0 from rfl]; omega) (by omega) (by omega) h0 (by omega)
  exact ⟨w, a', sd', hf, z, by omega, by omega⟩
/-! ### is a text a word for so many -/
theorem l2Word_go (s : ByteArray) (hs : s.size ≤ 1048576) : ∀ (m j : Nat) (h : Int), j + m = s.size → 0 ≤ h → h ≤ j → Ev (fun k => spec_l2Word.l0 k s h (j : Int)) (decide (hgt ((bs s).drop j) h = some 0)) := by
  intro m
  induction m with
  | zero =>
    intro j h hj h0 hhj
    rw [bs_end s j (by omega)]
    have c : ¬ (j : Int) < (s.size : Int) := by omega
    have e : (h == 0) = decide (hgt [] h = some 0) := by
      by_cases hh : h = 0
      · subst hh; rfl
      · rw [beq_eq_false_iff_ne.2 hh]
        exact (decide_eq_false (fun k => hh (Option.some.inj k))).symm
    rw [← e]
    exact Ev.step (f := fun _ => some (h == 0)) (fun k => by simp only [spec_l2Word.l0, c, ↓reduceIte]) (Ev.now _)
  | succ m ih =>
    intro j h hj h0 hhj
    have c : (j : Int) < (s.size : Int) := by omega
    have c0 : 0 ≤ (j : Int) := by omega
    have e1 := Aside0.mk (show wrap64 ((j : Int) + 1) = ((j + 1 : Nat) : Int) from wj (by omega))
    have e2 := Aside0.mk (show wrap64 (h + 1) = h + 1 from wr (by omega) (by omega))
    have e3 := Aside0.mk (show wrap64 (h - 1) = h - 1 from wr (by omega) (by omega))
    rw [bs_drop s j (by omega), hgt]
    by_cases h73 : bt s (j : Int) = 73
    · rw [if_pos h73]
      have b := ih (j + 1) (h + 1) (by omega) (by omega) (by omega)
      exact Ev.step (fun k => by simp only [spec_l2Word.l0, c, c0, h73, e2.out, e1.out, ↓reduceIte]) b
    · rw [if_neg h73]
      by_cases h79 : bt s (j : Int) = 79
      · rw [if_pos h79]
        by_cases n1 : h - 1 < 0
        · rw [if_pos n1]
          have n2 : ¬ h > 0 := by omega
          refine Ev.step (f := fun _ => some false) (fun k => ?_) (Ev.now _)
          simp only [spec_l2Word.l0, c, c0, n2, ↓reduceIte]
          rw [if_neg h73, if_pos h79]
        · rw [if_neg n1]
          have n2 : h > 0 := by omega
          have b := ih (j + 1) (h - 1) (by omega) (by omega) (by omega)
          refine Ev.step (fun k => ?_) b
          simp only [spec_l2Word.l0, c, c0, e3.out, n2, e1.out, ↓reduceIte]
          rw [if_neg h73, if_pos h79]
      · rw [if_neg h79]
        refine Ev.step (f := fun _ => some false) (fun k => ?_) (Ev.now _)
        simp only [spec_l2Word.l0, c, c0, ↓reduceIte]
        rw [if_neg h73, if_neg h79]
theorem ev_l2WordF (w : ByteArray) (n : Int) (hs : w.size ≤ 1000) (hn : 0 ≤ n ∧ n ≤ 1000) : Ev (fun k => spec_l2Word.f k w n) (decide ((w.size : Int) = 2 * n) && decide (hgt (bs w) 0 = some 0)) := by
  unfold spec_l2Word.f
  have e := Aside0.mk (show wrap64 (2 * n) = 2 * n from wr (by omega) (by omega))
  rw [e.out]
  by_cases c : (w.size : Int) = 2 * n
  · simp only [c, decide_true, Bool.true_and, ↓reduceIte]
    have := l2Word_go w (by omega) w.size 0 0 (by omega) (Int.le_refl _) (Int.le_refl _)
    rw [List.drop_zero] at this
    exact this
  · simp only [c, decide_false, Bool.false_and, ↓reduceIte]
    exact Ev.now _
theorem hgt_len : ∀ (l : List Int) (h : Int), hgt l h = some 0 → h ≤ (l.length : Int)
  | [], h, e => by
    have := Option.some.inj e
    rw [List.length_nil]
    omega
  | c :: t, h, e => by
    rw [hgt] at e
    rw [List.length_cons]
    split at e
    · have := hgt_len t _ e
      omega
    · split at e
      · split at e
        · cases e
        · have := hgt_len t _ e
          omega
      · cases e
/-! ### every word brings all numbers out -/
theorem runL_ex : ∀ (l rest st out : List Int), hgt l (st.length : Int) = some 0 → l.length = 2 * rest.length + st.length → ∃ r, runL l rest st out = some r ∧ r.Perm (out ++ st ++ rest)
  | [], rest, st, out, h, hl => by
    have e0 := Option.some.inj h
    have hs : st = [] := List.length_eq_zero_iff.1 (by omega)
    have hr : rest = [] := List.length_eq_zero_iff.1 (by rw [List.length_nil] at hl; omega)
    subst hs
    subst hr
    exact ⟨out, rfl, by simp⟩
  | c :: t, rest, st, out, h, hl => by
    rw [hgt] at h
    by_cases h73 : c = 73
    · rw [if_pos h73] at h
      rw [List.length_cons] at hl
      cases rest with
      | nil =>
        have := hgt_len t _ h
        rw [List.length_nil] at hl
        omega
      | cons x r =>
        rw [List.length_cons] at hl
        obtain ⟨y, hy, hp⟩ := runL_ex t r (x :: st) out (by rw [List.length_cons]; exact h) (by rw [List.length_cons]; omega)
        refine ⟨y, by simp only [runL, h73, ↓reduceIte]; exact hy, hp.trans ?_⟩
        rw [List.append_assoc, List.append_assoc]
        exact List.Perm.append_left out (List.perm_middle.symm)
    · rw [if_neg h73] at h
      by_cases h79 : c = 79
      · rw [if_pos h79] at h
        by_cases hn : (st.length : Int) - 1 < 0
        · rw [if_pos hn] at h
          cases h
        · rw [if_neg hn] at h
          cases st with
          | nil => exact absurd (by rw [List.length_nil]; decide) hn
          | cons x s =>
            rw [List.length_cons] at h hl
            obtain ⟨y, hy, hp⟩ := runL_ex t rest s (out ++ [x]) (by rw [show (s.length : Int) = ((s.length + 1 : Nat) : Int) - 1 by omega]; exact h) (by rw [List.length_cons] at hl; omega)
            refine ⟨y, by simp only [runL, h73, ↓reduceIte]; exact hy, ?_⟩
            rw [List.append_assoc, List.append_assoc] at hp
            rw [List.append_assoc]
            exact hp
      · rw [if_neg h79] at h
        cases h
theorem inv_loop (r : List Int) (hl : r.length ≤ 100) (hr : ∀ x ∈ r, 1 ≤ x ∧ x ≤ (r.length : Int)) : ∀ (m j : Nat) (o : List Int), j + m = r.length → o.length = r.length → ∃ x, Ev (fun k => spec_l2Inverse.l0 k r o (j : Int)) x ∧ x.length = r.length := by
  intro m
  induction m with
  | zero =>
    intro j o hj ho
    have c : ¬ (j : Int) < (r.length : Int) := by omega
    exact ⟨o, Ev.step (f := fun _ => some o) (fun k => by simp only [spec_l2Inverse.l0, c, ↓reduceIte]) (Ev.now _), ho⟩
  | succ m ih =>
    intro j o hj ho
    have c : (j : Int) < (r.length : Int) := by omega
    have c0 : 0 ≤ (j : Int) := by omega
    have hb : 1 ≤ rd r (j : Int) ∧ rd r (j : Int) ≤ (r.length : Int) := by
      rw [rd_get r j (by omega)]
      exact hr _ (List.getElem_mem _)
    have e1 := Aside0.mk (show wrap64 (rd r (j : Int) - 1) = rd r (j : Int) - 1 from wr (by omega) (by omega))
    have e2 := Aside0.mk (show wrap64 ((j : Int) + 1) = ((j + 1 : Nat) : Int) from wj (by omega))
    have c1 : 0 ≤ rd r (j : Int) - 1 := by omega
    have c2 : rd r (j : Int) - 1 < (o.length : Int) := by omega
    obtain ⟨x, hx, hxl⟩ := ih (j + 1) (o.set (rd r (j : Int) - 1).toNat ((j + 1 : Nat) : Int)) (by omega) (by rw [List.length_set]; exact ho)
    exact ⟨x, Ev.step (fun k => by simp only [spec_l2Inverse.l0, c, c0, e1.out, e2.out, c1, c2, ↓reduceIte]) hx, hxl⟩
theorem inv_ok (r : List Int) (hl : r.length ≤ 100) (hr : ∀ x ∈ r, 1 ≤ x ∧ x ≤ (r.length : Int)) : ∃ x, Ev (fun k => spec_l2Inverse.f k r) x ∧ x.length = r.length := by
  obtain ⟨x, hx, hxl⟩ := inv_loop r hl hr r.length 0 (List.replicate r.length 0) (by omega) (List.length_replicate ..)
  refine ⟨x, ?_, hxl⟩
  unfold spec_l2Inverse.f
  have c0 : 0 ≤ (r.length : Int) := by omega
  have c1 : r.length ≤ 35184372088832 := by omega
  simp only [c0, c1, ↓reduceIte, Int.toNat_natCast]
  exact hx
/-! ### draws of orders that can be sorted, mostly -/
theorem limit_ok {s : List Int} (hs : Bytes s) (a sd : Int) (h0 : 0 ≤ a) (h1 : a ≤ 1000000) : ∃ v a' sd', spec_l1Cur_limit.f s a sd = some (v, a', sd') ∧ 0 ≤ v ∧ v ≤ 8 ∧ a ≤ a' ∧ a' ≤ a + 2 := by
  unfold spec_l1Cur_limit.f
  obtain ⟨v, a1, s1, e1, hv, p1, q1⟩ := among_ok hs a sd ([2, 3, 1, 2, 4, 7, 5, 0, 8, 3, 2] : List Int) h0 (by omega) (by decide)
  have hv2 : 0 ≤ v ∧ v ≤ 8 := (by decide : ∀ v ∈ ([2, 3, 1, 2, 4, 7, 5, 0, 8, 3, 2] : List Int), 0 ≤ v ∧ v ≤ 8) v hv
  rw [e1]
  exact ⟨v, a1, s1, rfl, hv2.1, hv2.2, p1, q1⟩
theorem sortable_j {d : Int} (o : List Int) (w : ByteArray) (b : Bool) (ho : o.length ≤ 100) (h : b = true → (w.size : Int) = 2 * (o.length : Int) ∧ hgt (bs w) 0 = some 0) : ∃ x, Ev (fun k => spec_DrawIsSortableWithin.j0 k d o w b) (x, d) ∧ x.length ≤ 100 := by
  cases b with
  | true =>
    obtain ⟨h1, h2⟩ := h rfl
    obtain ⟨r, hr, hp⟩ := runL_ex (bs w) (iota 1 o.length) [] [] h2 (by rw [bs_length, iota_length, List.length_nil]; omega)
    rw [List.nil_append, List.nil_append] at hp
    have hrl : r.length = o.length := by rw [hp.length_eq, iota_length]
    obtain ⟨e1, _⟩ := ev_run (iota 1 o.length) w (by rw [iota_length]; omega) (by omega) hr
    obtain ⟨x, hx, hxl⟩ := inv_ok r (by omega) (fun y hy => by
      have hm := hp.mem_iff.1 hy
      unfold iota at hm
      obtain ⟨i, hi, rfl⟩ := List.mem_map.1 hm
      have := List.mem_range.1 hi
      omega)
    refine ⟨x, Ev.step (f := fun k => spec_DrawIsSortableWithin.j0 (k + 1) d o w true) (fun k => rfl) ?_, by omega⟩
    simp only [spec_DrawIsSortableWithin.j0, ↓reduceIte]
    exact Ev.bind (ev_l2Sorted o.length (by omega)) (Ev.bind e1 (Ev.bind hx (Ev.now _)))
  | false =>
    exact ⟨o, Ev.step (f := fun _ => some (o, d)) (fun k => by simp only [spec_DrawIsSortableWithin.j0, Bool.false_eq_true, ↓reduceIte]) (Ev.now _), ho⟩
theorem sortable_ok {s : List Int} (hs : Bytes s) : ∃ o d, Ev (fun k => spec_DrawIsSortableWithin.f k s) (o, d) ∧ o.length ≤ 100 ∧ 0 ≤ d ∧ d ≤ 8 := by
  obtain ⟨d, a1, s1, e1, d0, d8, p1, q1⟩ := limit_ok hs 0 0 (by omega) (by omega)
  obtain ⟨o, a2, s2, ho, zo, p2, q2⟩ := order_ok hs a1 s1 (by omega) (by omega)
  obtain ⟨w, a3, s3, hw, zw, p3, q3⟩ := word_ok hs a2 s2 (o.length : Int) (by omega) (by omega) (by omega)
  have hwd := ev_l2WordF w (o.length : Int) (by omega) (by omega)
  unfold spec_DrawIsSortableWithin.f
  have key : ∃ x, Ev (fun k => if ordB o = true then (spec_l2Word.f k w (o.length : Int)).bind fun t => (if t = true then ((spec_l1Cur_one.f s a3 s3 3).bind fun bt => (spec_DrawIsSortableWithin.j0 k d o w (!bt.1))) else (spec_DrawIsSortableWithin.j0 k d o w false)) else (spec_DrawIsSortableWithin.j0 k d o w false)) (x, d) ∧ x.length ≤ 100 := by
    cases hob : ordB o with
    | false =>
      obtain ⟨x, hx, zx⟩ := sortable_j (d := d) o w false zo (fun h => absurd h Bool.false_ne_true)
      refine ⟨x, ?_, zx⟩
      simp only [Bool.false_eq_true, ↓reduceIte]
      exact hx
    | true =>
      simp only [↓reduceIte]
      cases hwb : (decide ((w.size : Int) = 2 * (o.length : Int)) && decide (hgt (bs w) 0 = some 0)) with
      | false =>
        rw [hwb] at hwd
        obtain ⟨x, hx, zx⟩ := sortable_j (d := d) o w false zo (fun h => absurd h Bool.false_ne_true)
        refine ⟨x, Ev.bind hwd ?_, zx⟩
        simp only [Bool.false_eq_true, ↓reduceIte]
        exact hx
      | true =>
        rw [hwb] at hwd
        obtain ⟨b, a4, s4, e4, _, _⟩ := one_ok hs a3 s3 3 (by omega) (by omega)
        simp only [Bool.and_eq_true, decide_eq_true_eq] at hwb
        obtain ⟨x, hx, zx⟩ := sortable_j (d := d) o w (!b) zo (fun _ => hwb)
        refine ⟨x, Ev.bind hwd ?_, zx⟩
        simp only [↓reduceIte]
        exact Ev.bind (a := (b, a4, s4)) ⟨0, fun _ _ => e4⟩ hx
  obtain ⟨x, hx, zx⟩ := key
  refine ⟨x, d, ?_, zx, d0, d8⟩
  refine Ev.bind (a := (d, a1, s1)) ⟨0, fun _ _ => e1⟩ (Ev.bind ho (Ev.bind hw (Ev.bind (ev_l2Order o) ?_)))
  exact hx
theorem ev_one {α : Type} {g : Nat → Option α} {a b : α} (h1 : Ev g a) (h2 : Ev g b) : a = b := by
  obtain ⟨k1, h1⟩ := h1
  obtain ⟨k2, h2⟩ := h2
  have e1 := h1 (k1 + k2) (by omega)
  have e2 := h2 (k1 + k2) (by omega)
  rw [e1] at e2
  exact Option.some.inj e2
theorem ev_rInts (l : List Int) (hl : l.length ≤ 1048576) : Ev (fun k => laws_rInts.f k l l) true := by
  have go : ∀ (m j : Nat), j + m = l.length → Ev (fun k => laws_rInts.l0 k l l (j : Int)) true := by
    intro m
    induction m with
    | zero =>
      intro j hj
      have c : ¬ (j : Int) < (l.length : Int) := by omega
      exact Ev.step (f := fun _ => some true) (fun k => by simp only [laws_rInts.l0, c, ↓reduceIte]) (Ev.now _)
    | succ m ih =>
      intro j hj
      have c : (j : Int) < (l.length : Int) := by omega
      have c0 : 0 ≤ (j : Int) := by omega
      have e3 := Aside0.mk (show wrap64 ((j : Int) + 1) = ((j + 1 : Nat) : Int) from wj (by omega))
      exact Ev.step (fun k => by simp only [laws_rInts.l0, c, c0, e3.out, ↓reduceIte]) (ih (j + 1) (by omega))
  unfold laws_rInts.f
  simp only [↓reduceIte]
  exact go l.length 0 (by omega)
theorem chk_of' (n : Int) : ∀ (l pre : List Int), (∀ x ∈ l, 1 ≤ x ∧ x ≤ n) → (pre ++ l).Nodup → chk n pre l = true
  | [], _, _, _ => rfl
  | x :: t, pre, h, hn => by
    have hx := h x (by simp)
    have hnx : x ∉ pre := fun hp => by
      have := List.nodup_append.1 hn
      exact this.2.2 x hp x (by simp) rfl
    simp only [chk, Bool.and_eq_true, decide_eq_true_eq, Bool.not_eq_true', List.contains_eq_mem, decide_eq_false_iff_not]
    exact ⟨⟨⟨hx.1, hx.2⟩, hnx⟩, chk_of' n t (pre ++ [x]) (fun y hy => h y (by simp [hy])) (by rw [List.append_assoc]; exact hn)⟩
theorem ordB_perm {l m : List Int} (h : ordB l = true) (p : m.Perm l) : ordB m = true := by
  have hl := ordB_len h
  have hr := ordB_range h
  have hn := ordB_nodup h
  unfold ordB
  rw [p.length_eq, decide_eq_true hl.1, decide_eq_true hl.2]
  exact chk_of' _ m [] (fun x hx => hr x (p.mem_iff.1 hx)) (by rw [List.nil_append]; exact p.symm.nodup hn)
theorem draw_sweep {s : List Int} (hs : Bytes s) : ∃ o d, Ev (fun k => spec_DrawLimitedSweep.f k s) (o, d) ∧ o.length ≤ 100 ∧ 0 ≤ d ∧ d ≤ 8 := by
  obtain ⟨d, a1, s1, e1, d0, d8, p1, q1⟩ := limit_ok hs 0 0 (by omega) (by omega)
  obtain ⟨o, a2, s2, ho, zo, p2, q2⟩ := order_ok hs a1 s1 (by omega) (by omega)
  unfold spec_DrawLimitedSweep.f spec_DrawLimitedWord.f
  exact ⟨o, d, Ev.bind (Ev.bind (a := (d, a1, s1)) ⟨0, fun _ _ => e1⟩ (Ev.bind ho (Ev.now _))) (Ev.now _), zo, d0, d8⟩
theorem draw_most {s : List Int} (hs : Bytes s) : ∃ o d, Ev (fun k => spec_DrawMostWithin.f k s) (o, d) ∧ o.length ≤ 100 ∧ 0 ≤ d ∧ d ≤ 8 := by
  obtain ⟨o, d, h, zo, d0, d8⟩ := sortable_ok hs
  unfold spec_DrawMostWithin.f
  exact ⟨o, d, Ev.bind h (Ev.now _), zo, d0, d8⟩
theorem draw_bubble {s : List Int} (hs : Bytes s) : ∃ o, Ev (fun k => spec_DrawBubbleOrder.f k s) o ∧ o.length ≤ 100 := by
  obtain ⟨o, a2, s2, ho, zo, p2, q2⟩ := order_ok hs 0 0 (by omega) (by omega)
  unfold spec_DrawBubbleOrder.f spec_DrawIsOrder.f
  exact ⟨o, Ev.bind (Ev.bind ho (Ev.now _)) (Ev.now _), zo⟩
def okB (l : List Int) (d : Int) : Bool := ordB l && (decide (1 ≤ d) && decide (d ≤ 7))
theorem okB_facts {l : List Int} {d : Int} (h : okB l d = true) : ordB l = true ∧ (decide (1 ≤ d) && decide (d ≤ 7)) = true ∧ 1 ≤ d ∧ d ≤ 7 := by
  unfold okB at h
  rw [Bool.and_eq_true] at h
  have h2 := h.2
  simp only [Bool.and_eq_true, decide_eq_true_eq] at h2
  exact ⟨h.1, h.2, h2.1, h2.2⟩
theorem ev_LS (l : List Int) (d : Int) : Ev (fun k => impl_LimitedSweep.f k l d) (if okB l d = true then (sw d l [] [], true) else ([], false)) ∧ Ev (fun k => spec_LimitedSweep.f k l d) (if okB l d = true then (sw d l [] [], true) else ([], false)) := by
  obtain ⟨e1, e2⟩ := ev_limits d
  unfold impl_LimitedSweep.f spec_LimitedSweep.f okB
  cases ho : ordB l with
  | false =>
    refine ⟨Ev.bind (ev_isOrder l) ?_, Ev.bind (ev_l2Order l) ?_⟩
    · rw [ho]
      simp only [Bool.false_and, Bool.false_eq_true, ↓reduceIte]
      exact Ev.now _
    · rw [ho]
      simp only [Bool.false_and, Bool.false_eq_true, ↓reduceIte]
      exact Ev.now _
  | true =>
    cases hd : (decide (1 ≤ d) && decide (d ≤ 7)) with
    | false =>
      refine ⟨Ev.bind (ev_isOrder l) ?_, Ev.bind (ev_l2Order l) ?_⟩
      · rw [ho]
        simp only [e2, hd, Option.bind_some, Bool.and_false, Bool.false_eq_true, ↓reduceIte]
        exact Ev.now _
      · rw [ho]
        simp only [e1, hd, Option.bind_some, Bool.and_false, Bool.false_eq_true, ↓reduceIte]
        exact Ev.now _
    | true =>
      obtain ⟨h1, h7⟩ := ordB_len ho
      have hd' := hd
      simp only [Bool.and_eq_true, decide_eq_true_eq] at hd'
      obtain ⟨w1, w2⟩ := ev_sweep l d h7 hd'.1
      refine ⟨Ev.bind (ev_isOrder l) ?_, Ev.bind (ev_l2Order l) ?_⟩
      · rw [ho]
        simp only [e2, hd, Option.bind_some, Bool.and_self, ↓reduceIte]
        exact Ev.bind w2 (Ev.now _)
      · rw [ho]
        simp only [e1, hd, Option.bind_some, Bool.and_self, ↓reduceIte]
        exact Ev.bind w1 (Ev.now _)
theorem ev_LW (l : List Int) (d : Int) : Ev (fun k => impl_LimitedWord.f k l d) (if okB l d = true then (strOfNums (lw d l [] []), true) else ((⟨#[]⟩ : ByteArray), false)) ∧ Ev (fun k => spec_LimitedWord.f k l d) (if okB l d = true then (strOfNums (lw d l [] []), true) else ((⟨#[]⟩ : ByteArray), false)) := by
  obtain ⟨e1, e2⟩ := ev_limits d
  unfold impl_LimitedWord.f spec_LimitedWord.f okB
  cases ho : ordB l with
  | false =>
    refine ⟨Ev.bind (ev_isOrder l) ?_, Ev.bind (ev_l2Order l) ?_⟩
    · rw [ho]
      simp only [Bool.false_and, Bool.false_eq_true, ↓reduceIte]
      exact Ev.now _
    · rw [ho]
      simp only [Bool.false_and, Bool.false_eq_true, ↓reduceIte]
      exact Ev.now _
  | true =>
    cases hd : (decide (1 ≤ d) && decide (d ≤ 7)) with
    | false =>
      refine ⟨Ev.bind (ev_isOrder l) ?_, Ev.bind (ev_l2Order l) ?_⟩
      · rw [ho]
        simp only [e2, hd, Option.bind_some, Bool.and_false, Bool.false_eq_true, ↓reduceIte]
        exact Ev.now _
      · rw [ho]
        simp only [e1, hd, Option.bind_some, Bool.and_false, Bool.false_eq_true, ↓reduceIte]
        exact Ev.now _
    | true =>
      obtain ⟨h1, h7⟩ := ordB_len ho
      have hd' := hd
      simp only [Bool.and_eq_true, decide_eq_true_eq] at hd'
      refine ⟨Ev.bind (ev_isOrder l) ?_, Ev.bind (ev_l2Order l) ?_⟩
      · rw [ho]
        have c : 1 ≤ d ∧ l.length ≤ 1000 := ⟨hd'.1, by omega⟩
        simp only [e2, hd, Option.bind_some, Bool.and_self, ↓reduceIte, impl_limitedWord.f, if_pos c]
        exact Ev.now _
      · rw [ho]
        simp only [e1, hd, Option.bind_some, Bool.and_self, ↓reduceIte]
        exact Ev.bind (ev_l10Word l d h7 hd'.1) (Ev.now _)
theorem lw_bs (D : Int) (l : List Int) : bs (strOfNums (lw D l [] [])) = lw D l [] [] := bs_son _ (lw_byte D l [] [] (by intro c hc; cases hc))
theorem ev_SweepOrder (y : List Int) (ho : ordB y = true) : Ev (fun k => impl_SweepOrder.f k y) (sw 1000000 y [] [], true) := by
  obtain ⟨h1, h7⟩ := ordB_len ho
  have hr := run_lw 1000000 (by decide) y [] []
  rw [← lw_bs] at hr
  have hsz : (strOfNums (lw 1000000 y [] [])).size ≤ 1048576 := by rw [son_size, lw_len 1000000 (by decide)]; simp; omega
  obtain ⟨_, r2⟩ := ev_run y _ (by omega) hsz hr
  have c : y.length ≤ 1000 ∧ (∀ x ∈ y, x < 8) := ⟨by omega, fun x hx => by have := ordB_range ho x hx; omega⟩
  unfold impl_SweepOrder.f impl_sweep.f
  refine Ev.bind (ev_isOrder y) ?_
  rw [ho]
  simp only [↓reduceIte, impl_sweepWord.f, if_pos c, Option.bind_some]
  exact Ev.bind (Ev.bind r2 (Ev.now _)) (Ev.now _)
theorem ev_Bubble (x : Int) (r : List Int) (ho : ordB (x :: r) = true) : Ev (fun k => impl_BubbleOrder.f k (x :: r)) (bub x r, true) := by
  obtain ⟨h1, h7⟩ := ordB_len ho
  unfold impl_BubbleOrder.f
  refine Ev.bind (ev_isOrder _) ?_
  rw [ho]
  have c : (x :: r).length < 17592186044416 := by omega
  simp only [↓reduceIte, slices_Clone_int_int.f, if_pos c, Option.bind_some]
  rw [List.length_cons] at h7
  exact ev_bub r [] x (by rw [List.length_nil]; omega)
theorem lw_word {o : List Int} {d : Int} (ho : ordB o = true) (hd : 1 ≤ d) : wordB (strOfNums (lw d o [] [])) = true ∧ depW (bs (strOfNums (lw d o [] []))) 0 0 ≤ d ∧ (strOfNums (lw d o [] [])).size = 2 * o.length := by
  obtain ⟨h1, h7⟩ := ordB_len ho
  have hsz : (strOfNums (lw d o [] [])).size = 2 * o.length := by rw [son_size, lw_len d hd, List.length_nil]; omega
  obtain ⟨g1, g2⟩ := lw_depth d hd o [] 0 (by rw [List.length_nil]; omega) (Int.le_refl _) (by omega)
  rw [List.length_nil] at g1 g2
  refine ⟨?_, by rw [lw_bs]; exact g2, hsz⟩
  unfold wordB
  rw [lw_bs, hsz]
  simp only [Bool.and_eq_true, decide_eq_true_eq]
  exact ⟨g1, by omega, by omega⟩
theorem FnLimitedSweeps : laws_FnLimitedSweeps.Pure := by
  intro s hl1 hl2 hwf
  have hs := bytes_of hwf
  refine Ev.rounds (g := fun k => laws_FnLimitedSweeps.f k s) ?_
  unfold laws_FnLimitedSweeps.f
  refine Ev.bind (a := decide ((s.length : Int) > 65536)) ⟨0, fun _ _ => rfl⟩ ?_
  by_cases hbig : (s.length : Int) > 65536
  · simp only [hbig, decide_true, ↓reduceIte]
    exact Ev.now _
  · simp only [hbig, decide_false, Bool.false_eq_true, ↓reduceIte]
    obtain ⟨o, d, hd, zo, d0, d8⟩ := draw_sweep hs
    obtain ⟨x, e, hx, zx, e0, e8⟩ := draw_most hs
    obtain ⟨y, hy, zy⟩ := draw_bubble hs
    obtain ⟨i1, i2⟩ := ev_LS o d
    obtain ⟨S, hS⟩ : ∃ S, S = (if okB o d = true then (sw d o [] [], true) else (([] : List Int), false)) := ⟨_, rfl⟩
    rw [← hS] at i1 i2
    have hS2 : S.2 = okB o d := by rw [hS]; cases okB o d <;> rfl
    have zS : S.1.length ≤ 1000 := by
      rw [hS]
      by_cases h : okB o d = true
      · rw [if_pos h]
        show (sw d o [] []).length ≤ 1000
        rw [sw_len]
        omega
      · rw [if_neg h]
        decide
    refine Ev.bind hd (Ev.bind i1 (Ev.bind i2 ?_))
    simp only [bne_self_eq_false, Bool.false_eq_true, ↓reduceIte]
    refine Ev.bind (ev_rInts S.1 (by omega)) ?_
    simp only [Bool.not_true]
    refine Ev.step (f := fun k => laws_FnLimitedSweeps.j0 (k + 1) s o d S.1 S.2 false) (fun k => rfl) ?_
    simp only [laws_FnLimitedSweeps.j0, Bool.false_eq_true, ↓reduceIte]
    obtain ⟨w1, w2⟩ := ev_LW o d
    obtain ⟨W, hW⟩ : ∃ W, W = (if okB o d = true then (strOfNums (lw d o [] []), true) else ((⟨#[]⟩ : ByteArray), false)) := ⟨_, rfl⟩
    rw [← hW] at w1 w2
    have hW2 : W.2 = okB o d := by rw [hW]; cases okB o d <;> rfl
    refine Ev.bind w1 (Ev.bind w2 ?_)
    simp only [bne_self_eq_false, hW2, hS2, Bool.false_eq_true, ↓reduceIte]
    refine Ev.step (f := fun k => laws_FnLimitedSweeps.j1 (k + 1) s o d S.1 (okB o d) W.1 false) (fun k => rfl) ?_
    simp only [laws_FnLimitedSweeps.j1, Bool.false_eq_true, ↓reduceIte]
    obtain ⟨C, c1, c2, c3⟩ := both_CountTold o d
    refine Ev.bind c2 (Ev.bind c1 ?_)
    simp only [bne_self_eq_false, Bool.false_eq_true, ↓reduceIte]
    -- the last joints
    have J8 : Ev (fun k => laws_FnLimitedSweeps.j8 k o d C.1 C.2) true := by
      refine Ev.step (f := fun k => laws_FnLimitedSweeps.j8 (k + 1) o d C.1 C.2) (fun k => rfl) ?_
      simp only [laws_FnLimitedSweeps.j8]
      cases hC : C.2 with
      | false =>
        simp only [Bool.false_eq_true, ↓reduceIte]
        exact Ev.now _
      | true =>
        obtain ⟨ho, hd1, hd7, m, hm, hsw, hlt⟩ := c3 hC
        simp only [↓reduceIte]
        obtain ⟨h1, h7⟩ := ordB_len ho
        have loop : ∀ (r i : Nat) (now : List Int), i + r = m → now.Perm o → Swept d r now → Ev (fun k => laws_FnLimitedSweeps.l0 k o d C.1 now (i : Int)) true := by
          intro r
          induction r with
          | zero =>
            intro i now hi hp hsw
            have hsorted : now = iota 1 now.length := hsw
            have hlen : now.length = o.length := hp.length_eq
            have c : ¬ (i : Int) < C.1 := by rw [hm]; omega
            refine Ev.step (f := fun k => laws_FnLimitedSweeps.l0 (k + 1) o d C.1 now (i : Int)) (fun k => rfl) ?_
            simp only [laws_FnLimitedSweeps.l0, c, ↓reduceIte]
            refine Ev.bind (ev_rSorted now (by omega)) ?_
            rw [decide_eq_true hsorted]
            simp only [↓reduceIte]
            by_cases hmo : C.1 < (o.length : Int)
            · simp only [hmo, ↓reduceIte]
              exact Ev.now _
            · have : C.1 = 0 := by rw [hm] at hmo ⊢; omega
              simp only [this, show ¬ (0 : Int) < (o.length : Int) from by rw [← this]; exact hmo, ↓reduceIte, beq_self_eq_true]
              exact Ev.now _
          | succ r ih =>
            intro i now hi hp hsw
            obtain ⟨hns, hsw'⟩ := hsw
            have hlen : now.length = o.length := hp.length_eq
            have hno := ordB_perm ho hp
            have c : (i : Int) < C.1 := by rw [hm]; omega
            have e1 := Aside0.mk (show wrap64 ((i : Int) + 1) = ((i + 1 : Nat) : Int) from wj (by omega))
            have hok : okB now d = true := by unfold okB; rw [hno, decide_eq_true hd1, decide_eq_true hd7]; rfl
            have hls := (ev_LS now d).1
            rw [if_pos hok] at hls
            have hp2 : (sw d now [] []).Perm o := by
              have := sw_perm d now [] []
              rw [List.nil_append, List.nil_append] at this
              exact this.trans hp
            refine Ev.step (f := fun k => laws_FnLimitedSweeps.l0 (k + 1) o d C.1 now (i : Int)) (fun k => rfl) ?_
            simp only [laws_FnLimitedSweeps.l0, c, ↓reduceIte]
            refine Ev.bind hls ?_
            simp only [↓reduceIte]
            refine Ev.bind (ev_rSorted now (by omega)) ?_
            rw [decide_eq_false hns]
            simp only [Bool.false_eq_true, ↓reduceIte, e1.out]
            exact ih (i + 1) _ (by omega) hp2 hsw'
        exact loop m 0 o (Nat.zero_add _) (List.Perm.refl _) hsw
    have J7 : Ev (fun k => laws_FnLimitedSweeps.j7 k o d S.1 (okB o d) W.1 C.1 C.2) true := by
      refine Ev.step (f := fun k => laws_FnLimitedSweeps.j7 (k + 1) o d S.1 (okB o d) W.1 C.1 C.2) (fun k => rfl) ?_
      simp only [laws_FnLimitedSweeps.j7]
      cases hok : okB o d with
      | false =>
        simp only [Bool.false_eq_true, ↓reduceIte]
        exact J8
      | true =>
        obtain ⟨ho, hdd, hd1, hd7⟩ := okB_facts hok
        obtain ⟨h1, h7⟩ := ordB_len ho
        have hSe : S = (sw d o [] [], true) := by rw [hS, if_pos hok]
        have hWe : W = (strOfNums (lw d o [] []), true) := by rw [hW, if_pos hok]
        obtain ⟨g1, g2, g3⟩ := lw_word ho hd1
        have hr := run_lw d hd1 o [] []
        rw [← lw_bs] at hr
        obtain ⟨_, r2⟩ := ev_run o (strOfNums (lw d o [] [])) (by omega) (by omega) hr
        have ew := Aside0.mk (show wrap64 (2 * (o.length : Int)) = 2 * (o.length : Int) from wr (by omega) (by omega))
        have csz : ((strOfNums (lw d o [] [])).size : Int) = 2 * (o.length : Int) := by rw [g3]; omega
        have hdep := ev_depthAny (strOfNums (lw d o [] [])) (by omega)
        rw [if_pos g1] at hdep
        have hword := ev_isWordAny (strOfNums (lw d o [] [])) (by omega)
        rw [g1] at hword
        have hrun : Ev (fun k => impl_RunWord.f k o (strOfNums (lw d o [] []))) (sw d o [] [], true) := by
          unfold impl_RunWord.f
          refine Ev.bind (ev_isOrder o) ?_
          rw [ho]
          simp only [↓reduceIte]
          refine Ev.bind hword ?_
          simp only [csz, ew.out, ↓reduceIte]
          exact Ev.bind r2 (Ev.now _)
        have hdo : Ev (fun k => impl_DepthOf.f k (strOfNums (lw d o [] []))) (depW (bs (strOfNums (lw d o [] []))) 0 0, true) := by
          unfold impl_DepthOf.f
          exact Ev.bind hdep (Ev.now _)
        have zsw : (sw d o [] []).length ≤ 1048576 := by rw [sw_len]; omega
        have cdep : ¬ depW (bs (strOfNums (lw d o [] []))) 0 0 > d := by omega
        rw [hSe, hWe]
        simp only [↓reduceIte]
        refine Ev.bind hrun (Ev.bind hdo ?_)
        simp only [↓reduceIte]
        refine Ev.bind (ev_rInts _ zsw) ?_
        simp only [cdep, ↓reduceIte]
        exact J8
    obtain ⟨M, m1, m2⟩ := both_MostWithin x e
    have J6 : Ev (fun k => laws_FnLimitedSweeps.j5 k o d S.1 (okB o d) W.1 C.1 C.2 x e M.1 M.2) true := by
      refine Ev.step (f := fun k => laws_FnLimitedSweeps.j5 (k + 1) o d S.1 (okB o d) W.1 C.1 C.2 x e M.1 M.2) (fun k => rfl) ?_
      simp only [laws_FnLimitedSweeps.j5]
      have no : ∀ (z : Bool), z = false → Ev (fun k => laws_FnLimitedSweeps.j6 k o d S.1 (okB o d) W.1 C.1 C.2 x e M.1 z) true := by
        intro z hz
        refine Ev.step (f := fun k => laws_FnLimitedSweeps.j6 (k + 1) o d S.1 (okB o d) W.1 C.1 C.2 x e M.1 z) (fun k => rfl) ?_
        simp only [laws_FnLimitedSweeps.j6, hz, Bool.false_eq_true, ↓reduceIte]
        exact J7
      cases hM : M.2 with
      | false =>
        simp only [Bool.false_eq_true, ↓reduceIte]
        exact no _ rfl
      | true =>
        simp only [↓reduceIte]
        by_cases he7 : e < 7
        · have hok : ordB x = true ∧ (decide (1 ≤ e) && decide (e ≤ 7)) = true := by
            obtain ⟨_, e2⟩ := ev_limits e
            have bad : Ev (fun k => impl_MostWithin.f k x e) (0, false) → False := fun h => by
              have := ev_one m2 h
              rw [this] at hM
              exact Bool.false_ne_true hM
            have badj : Ev (fun k => impl_MostWithin.j0 k x e true) (0, false) := Ev.step (f := fun _ => some (0, false)) (fun k => by simp only [impl_MostWithin.j0, ↓reduceIte]) (Ev.now _)
            cases ho : ordB x with
            | false =>
              refine (bad ?_).elim
              unfold impl_MostWithin.f
              refine Ev.bind (ev_isOrder x) ?_
              rw [ho]
              simp only [Bool.false_eq_true, ↓reduceIte]
              exact badj
            | true =>
              cases hd : (decide (1 ≤ e) && decide (e ≤ 7)) with
              | false =>
                refine (bad ?_).elim
                unfold impl_MostWithin.f
                refine Ev.bind (ev_isOrder x) ?_
                rw [ho]
                simp only [e2, hd, Option.bind_some, Bool.not_false, ↓reduceIte]
                exact badj
              | true => exact ⟨rfl, rfl⟩
          have h1e : 1 ≤ e := by
            have := hok.2
            simp only [Bool.and_eq_true, decide_eq_true_eq] at this
            exact this.1
          have hM1 := ev_one m2 (ev_MostI x e hok.1 hok.2)
          have hM2 := ev_MostI x (e + 1) hok.1 (by simp only [Bool.and_eq_true, decide_eq_true_eq]; omega)
          have hmono := mwE_mono 100 e x [] 1 (by rw [List.length_nil]; omega)
          have ew := Aside0.mk (show wrap64 (e + 1) = e + 1 from wr (by omega) (by omega))
          have hlt : ¬ mwE 100 (e + 1) x [] 1 < M.1 := by rw [hM1]; show ¬ mwE 100 (e + 1) x [] 1 < mwE 100 e x [] 1; omega
          refine Ev.step (f := fun k => laws_FnLimitedSweeps.j6 (k + 1) o d S.1 (okB o d) W.1 C.1 C.2 x e M.1 (decide (e < 7))) (fun k => rfl) ?_
          simp only [laws_FnLimitedSweeps.j6, he7, decide_true, ew.out, ↓reduceIte]
          refine Ev.bind hM2 ?_
          simp only [hlt, ↓reduceIte]
          exact J7
        · exact no _ (decide_eq_false he7)
    have J2 : Ev (fun k => laws_FnLimitedSweeps.j2 k s o d S.1 (okB o d) W.1 C.1 C.2 false) true := by
      refine Ev.step (f := fun k => laws_FnLimitedSweeps.j2 (k + 1) s o d S.1 (okB o d) W.1 C.1 C.2 false) (fun k => rfl) ?_
      simp only [laws_FnLimitedSweeps.j2, Bool.false_eq_true, ↓reduceIte]
      refine Ev.bind hx (Ev.bind m2 (Ev.bind m1 ?_))
      simp only [bne_self_eq_false, ↓reduceIte]
      refine Ev.step (f := fun k => laws_FnLimitedSweeps.j3 (k + 1) s o d S.1 (okB o d) W.1 C.1 C.2 x e M.1 M.2 false) (fun k => rfl) ?_
      simp only [laws_FnLimitedSweeps.j3, Bool.false_eq_true, ↓reduceIte]
      obtain ⟨B, b, zB, b1, b2⟩ := both_BubbleOrder y
      refine Ev.bind hy (Ev.bind b2 (Ev.bind b1 ?_))
      simp only [bne_self_eq_false, Bool.false_eq_true, ↓reduceIte]
      refine Ev.bind (ev_rInts B (by omega)) ?_
      simp only [Bool.not_true]
      refine Ev.step (f := fun k => laws_FnLimitedSweeps.j4 (k + 1) o d S.1 (okB o d) W.1 C.1 C.2 x e M.1 M.2 y B b false) (fun k => rfl) ?_
      simp only [laws_FnLimitedSweeps.j4, Bool.false_eq_true, ↓reduceIte]
      cases hb : b with
      | false =>
        simp only [Bool.false_eq_true, ↓reduceIte]
        exact J6
      | true =>
        rw [hb] at b2
        have ho : ordB y = true := by
          cases ho : ordB y with
          | true => rfl
          | false =>
            have : Ev (fun k => impl_BubbleOrder.f k y) ([], false) := by
              unfold impl_BubbleOrder.f
              refine Ev.bind (ev_isOrder y) ?_
              rw [ho]
              simp only [Bool.false_eq_true, ↓reduceIte]
              exact Ev.now _
            have := ev_one b2 this
            exact absurd (Prod.mk.inj this).2 (by decide)
        obtain ⟨h1, h7⟩ := ordB_len ho
        have okk : ∀ q : Int, 1 ≤ q → q ≤ 7 → okB y q = true := fun q a b => by unfold okB; rw [ho, decide_eq_true a, decide_eq_true b]; rfl
        have s1 := (ev_LS y 1).1
        have s2 := (ev_LS y 2).1
        have s3 := (ev_LS y (y.length : Int)).1
        rw [if_pos (okk 1 (by decide) (by decide))] at s1
        rw [if_pos (okk 2 (by decide) (by decide))] at s2
        rw [if_pos (okk (y.length : Int) (by omega) (by omega))] at s3
        rw [sw_one y [] [] (by decide), List.nil_append, List.nil_append] at s1
        have hB2 : sw 2 y [] [] = B := by
          cases y with
          | nil => simp at h1
          | cons z t =>
            have hbb := ev_one b2 (ev_Bubble z t ho)
            rw [(Prod.mk.inj hbb).1]
            have : sw 2 (z :: t) [] [] = sw 2 t [z] [] := by
              simp only [sw, lwPop, List.drop_nil, List.length_nil, List.take_nil, List.append_nil]
              rw [if_neg (by decide)]
            rw [this, (sw_two t).1 z []]
            rfl
        rw [hB2] at s2
        rw [sw_whole (y.length : Int) 1000000 y [] [] (by rw [List.length_nil]; omega) (by rw [List.length_nil]; omega)] at s3
        have zs3 : (sw 1000000 y [] []).length ≤ 1048576 := by rw [sw_len]; omega
        simp only [↓reduceIte]
        refine Ev.bind s1 (Ev.bind s2 (Ev.bind s3 (Ev.bind (ev_SweepOrder y ho) ?_)))
        simp only [↓reduceIte]
        refine Ev.bind (ev_rInts y (by omega)) ?_
        simp only [↓reduceIte]
        refine Ev.bind (ev_rInts B (by omega)) ?_
        simp only [↓reduceIte]
        refine Ev.bind (ev_rInts _ zs3) ?_
        simp only [↓reduceIte]
        exact J6
    cases hC : C.2 with
    | false =>
      rw [hC] at J2
      simp only [Bool.false_eq_true, ↓reduceIte]
      exact J2
    | true =>
      have hok : okB o d = true := by
        obtain ⟨ho, hd1, hd7, _⟩ := c3 hC
        unfold okB
        rw [ho, decide_eq_true hd1, decide_eq_true hd7]
        rfl
      rw [hC] at J2
      simp only [hok, Bool.not_true, ↓reduceIte]
      rw [hok] at J2
      exact J2

end Go.Proofs.Ytnoapomobflknaa.Pure
