/- LimitedSweep: the program and the reference tell the same of every list (of at most 1048576 numbers: of longer ones the law says nothing) and every limit, the list stays as it was, and the result shares no memory. -/
import Derived.Test.YtppfobgmbjjdhaaXa5
import Derived.Test.YtppfobgmbjjdhaaXa4
import Derived.Test.YtppfobgmbjjdhaaXa3
import Derived.Test.YtppfobgmbjjdhaaXa2
import Derived.Test.YtppfobgmbjjdhaaXaHlimited
import Derived.Test.YtppfobgmbjjdhaaXa1
import Derived.Test.YtppfobgmbjjdhaaPk
set_option linter.unusedVariables false
set_option linter.unusedSimpArgs false
namespace Go.Proofs.Ytppfobgmbjjdhaa.Pure
open Go.RowKit Go.Proofs.Ytppfobgmbjjdhaa.Xa Go.Proofs.YtppfobgmbjjdhaaW.PrintWords Go.Proofs.YtppfobgmbjjdhaaW.PrintLast Go.Proofs.Ytppfobgmbjjdhaa.Pk

theorem ev_l1In' (a b c : Int) : spec_l1In.f a b c = some (decide (b ≤ a) && decide (a ≤ c)) := by
  unfold spec_l1In.f
  by_cases h : b ≤ a
  · rw [if_pos h, decide_eq_true h, Bool.true_and]
  · rw [if_neg h, decide_eq_false h, Bool.false_and]
/-! ### is a list an order? -/
theorem ev_l1Has_l0 (l : List Int) (x : Int) (hl : l.length < 9223372036854775807) (d : Nat) : ∀ j : Nat, j + d = l.length → Ev (fun k => spec_l1Has.l0 k l x (j : Int)) ((l.drop j).contains x) := by
  induction d with
  | zero =>
    intro j hj
    have c : ¬ (j : Int) < (l.length : Int) := by omega
    rw [List.drop_of_length_le (by omega)]
    exact Ev.step (fun k => by simp only [spec_l1Has.l0, c, ↓reduceIte] <;> rfl) (Ev.now _)
  | succ d ih =>
    intro j hj
    have c : (j : Int) < (l.length : Int) := by omega
    have c0 : 0 ≤ (j : Int) := by omega
    have e1 : wrap64 ((j : Int) + 1) = ((j + 1 : Nat) : Int) := wj (by omega)
    rw [rd_drop l j (by omega), List.contains_cons]
    by_cases h : rd l (j : Int) = x
    · have : (x == rd l (j : Int)) = true := by rw [h]; exact beq_self_eq_true x
      rw [this, Bool.true_or]
      exact Ev.step (fun k => by simp only [spec_l1Has.l0, c, c0, h, ↓reduceIte] <;> rfl) (Ev.now _)
    · have : (x == rd l (j : Int)) = false := beq_eq_false_iff_ne.2 (fun e => h e.symm)
      rw [this, Bool.false_or]
      exact Ev.step (fun k => by simp only [spec_l1Has.l0, c, c0, h, e1, ↓reduceIte]) (ih (j + 1) (by omega))
theorem ev_l1Has (l : List Int) (x : Int) (hl : l.length < 9223372036854775807) : Ev (fun k => spec_l1Has.f k l x) (l.contains x) := by
  have := ev_l1Has_l0 l x hl l.length 0 (by omega)
  rw [List.drop_zero] at this
  exact this
theorem ev_Index_l0 (l : List Int) (x : Int) (hl : l.length < 9223372036854775807) (d : Nat) : ∀ j : Nat, j + d = l.length → ∃ r : Int, Ev (fun k => slices_Index_int_int.l0 k l x (l.length : Int) (j : Int)) r ∧ decide (r ≥ 0) = (l.drop j).contains x := by
  induction d with
  | zero =>
    intro j hj
    have c : ¬ (j : Int) < (l.length : Int) := by omega
    rw [List.drop_of_length_le (by omega)]
    exact ⟨-1, Ev.step (fun k => by simp only [slices_Index_int_int.l0, c, ↓reduceIte] <;> rfl) (Ev.now _), rfl⟩
  | succ d ih =>
    intro j hj
    have c : (j : Int) < (l.length : Int) := by omega
    have c0 : 0 ≤ (j : Int) := by omega
    have e1 : wrap64 ((j : Int) + 1) = ((j + 1 : Nat) : Int) := wj (by omega)
    rw [rd_drop l j (by omega), List.contains_cons]
    by_cases h : x = rd l (j : Int)
    · have : (x == rd l (j : Int)) = true := beq_iff_eq.2 h
      rw [this, Bool.true_or]
      exact ⟨j, Ev.step (fun k => by simp only [slices_Index_int_int.l0, c, c0, ↓reduceIte]; rw [if_pos h]) (Ev.now _), by simp⟩
    · have : (x == rd l (j : Int)) = false := beq_eq_false_iff_ne.2 h
      rw [this, Bool.false_or]
      obtain ⟨r, hr, hd⟩ := ih (j + 1) (by omega)
      exact ⟨r, Ev.step (fun k => by simp only [slices_Index_int_int.l0, c, c0, h, e1, ↓reduceIte]) hr, hd⟩
theorem ev_Contains (l : List Int) (x : Int) (hl : l.length < 9223372036854775807) : Ev (fun k => slices_Contains_int_int.f k l x) (l.contains x) := by
  obtain ⟨r, hr, hd⟩ := ev_Index_l0 l x hl l.length 0 (by omega)
  rw [List.drop_zero] at hd
  unfold slices_Contains_int_int.f slices_Index_int_int.f
  refine Ev.bind hr ?_
  rw [hd]
  exact Ev.now _
theorem ev_l2Order_l0 (l : List Int) (hl : l.length ≤ 7) (d : Nat) : ∀ j : Nat, j + d = l.length → Ev (fun k => spec_l2Order.l0 k l (j : Int)) (chk l.length (l.take j) (l.drop j)) := by
  induction d with
  | zero =>
    intro j hj
    have c : ¬ (j : Int) < (l.length : Int) := by omega
    rw [List.drop_of_length_le (by omega)]
    exact Ev.step (fun k => by simp only [spec_l2Order.l0, c, ↓reduceIte] <;> rfl) (Ev.now _)
  | succ d ih =>
    intro j hj
    have c : (j : Int) < (l.length : Int) := by omega
    have c0 : 0 ≤ (j : Int) := by omega
    have c1 : (j : Int) ≤ (l.length : Int) := by omega
    have e1 : wrap64 ((j : Int) + 1) = ((j + 1 : Nat) : Int) := wj (by omega)
    rw [rd_drop l j (by omega), chk, ← take_succ l j (by omega)]
    by_cases h : (decide (1 ≤ rd l (j : Int)) && decide (rd l (j : Int) ≤ (l.length : Int))) = true
    · rw [h, Bool.true_and]
      refine Ev.step (f := fun k => (spec_l1Has.f k (l.take j) (rd l (j : Int))).bind fun t => if t = true then some false else spec_l2Order.l0 k l ((j + 1 : Nat) : Int)) (fun k => by simp only [spec_l2Order.l0, c, c0, c1, ev_l1In', h, e1, Option.bind_some, Int.toNat_natCast, ↓reduceIte]) ?_
      refine Ev.bind (ev_l1Has (l.take j) _ (by rw [List.length_take]; omega)) ?_
      cases hc : (l.take j).contains (rd l (j : Int)) with
      | true =>
        simp only [↓reduceIte, Bool.not_true, Bool.false_and]
        exact Ev.now _
      | false =>
        simp only [Bool.false_eq_true, ↓reduceIte, Bool.not_false, Bool.true_and]
        exact ih (j + 1) (by omega)
    · have h' := Bool.eq_false_iff.2 h
      rw [h', Bool.false_and, Bool.false_and]
      exact Ev.step (fun k => by simp only [spec_l2Order.l0, c, c0, ev_l1In', h', Option.bind_some, Bool.false_eq_true, ↓reduceIte] <;> rfl) (Ev.now _)
theorem ev_l2Order (l : List Int) : Ev (fun k => spec_l2Order.f k l) (ordB l) := by
  unfold spec_l2Order.f ordB
  simp only [ev_l1In', Option.bind_some]
  by_cases h1 : 1 ≤ l.length
  · have g1 : (1 : Int) ≤ (l.length : Int) := by omega
    by_cases h7 : l.length ≤ 7
    · have g7 : (l.length : Int) ≤ 7 := by omega
      have := ev_l2Order_l0 l h7 l.length 0 (by omega)
      simp only [h1, h7, g1, g7, decide_true, Bool.and_true, Bool.true_and, ↓reduceIte]
      rw [List.take_zero, List.drop_zero] at this
      exact this
    · have g7 : ¬ (l.length : Int) ≤ 7 := by omega
      simp only [h7, g7, decide_false, Bool.and_false, Bool.false_and, Bool.false_eq_true, ↓reduceIte]
      exact Ev.now _
  · have g1 : ¬ (1 : Int) ≤ (l.length : Int) := by omega
    simp only [h1, g1, decide_false, Bool.false_and, Bool.false_eq_true, ↓reduceIte]
    exact Ev.now _
theorem ev_isOrder_l0 (l : List Int) (hl : l.length ≤ 7) (d : Nat) : ∀ j : Nat, j + d = l.length → Ev (fun k => impl_isOrder.l0 k l l (l.length : Int) (j : Int)) (chk l.length (l.take j) (l.drop j)) := by
  induction d with
  | zero =>
    intro j hj
    have c : ¬ (j : Int) < (l.length : Int) := by omega
    rw [List.drop_of_length_le (by omega)]
    exact Ev.step (fun k => by simp only [impl_isOrder.l0, c, ↓reduceIte] <;> rfl) (Ev.now _)
  | succ d ih =>
    intro j hj
    have c : (j : Int) < (l.length : Int) := by omega
    have c0 : 0 ≤ (j : Int) := by omega
    have c1 : (j : Int) ≤ (l.length : Int) := by omega
    have e1 : wrap64 ((j : Int) + 1) = ((j + 1 : Nat) : Int) := wj (by omega)
    rw [rd_drop l j (by omega), chk, ← take_succ l j (by omega)]
    by_cases h1 : 1 ≤ rd l (j : Int)
    · have g1 : ¬ rd l (j : Int) < 1 := by omega
      by_cases h2 : rd l (j : Int) ≤ (l.length : Int)
      · have g2 : ¬ rd l (j : Int) > (l.length : Int) := by omega
        simp only [h1, h2, decide_true, Bool.true_and]
        refine Ev.step (f := fun k => (slices_Contains_int_int.f k (l.take j) (rd l (j : Int))).bind fun t => if t = true then some false else impl_isOrder.l0 k l l (l.length : Int) ((j + 1 : Nat) : Int)) (fun k => by simp only [impl_isOrder.l0, c, c0, c1, g1, g2, e1, Int.toNat_natCast, ↓reduceIte]) ?_
        refine Ev.bind (ev_Contains (l.take j) _ (by rw [List.length_take]; omega)) ?_
        cases hc : (l.take j).contains (rd l (j : Int)) with
        | true =>
          simp only [↓reduceIte, Bool.not_true, Bool.false_and]
          exact Ev.now _
        | false =>
          simp only [Bool.false_eq_true, ↓reduceIte, Bool.not_false, Bool.true_and]
          exact ih (j + 1) (by omega)
      · have g2 : rd l (j : Int) > (l.length : Int) := by omega
        simp only [h2, decide_false, Bool.and_false, Bool.false_and]
        exact Ev.step (fun k => by simp only [impl_isOrder.l0, c, c0, g1, g2, ↓reduceIte] <;> rfl) (Ev.now _)
    · have g1 : rd l (j : Int) < 1 := by omega
      simp only [h1, decide_false, Bool.false_and]
      exact Ev.step (fun k => by simp only [impl_isOrder.l0, c, c0, g1, ↓reduceIte] <;> rfl) (Ev.now _)
theorem ev_isOrder (l : List Int) : Ev (fun k => impl_isOrder.f k l) (ordB l) := by
  unfold impl_isOrder.f ordB
  by_cases h1 : 1 ≤ l.length
  · have g1 : ¬ (l.length : Int) < 1 := by omega
    by_cases h7 : l.length ≤ 7
    · have g7 : ¬ (l.length : Int) > 7 := by omega
      have := ev_isOrder_l0 l h7 l.length 0 (by omega)
      simp only [h1, h7, g1, g7, decide_true, decide_false, Bool.true_and, ↓reduceIte]
      refine Ev.step (fun k => by simp only [impl_isOrder.j0, Bool.false_eq_true, ↓reduceIte] <;> rfl) ?_
      rw [List.take_zero, List.drop_zero] at this
      exact this
    · have g7 : (l.length : Int) > 7 := by omega
      simp only [h7, g1, g7, decide_true, decide_false, Bool.and_false, Bool.false_and, ↓reduceIte]
      exact Ev.step (fun k => by simp only [impl_isOrder.j0, ↓reduceIte] <;> rfl) (Ev.now _)
  · have g1 : (l.length : Int) < 1 := by omega
    simp only [h1, g1, decide_false, Bool.false_and, ↓reduceIte]
    exact Ev.step (fun k => by simp only [impl_isOrder.j0, ↓reduceIte] <;> rfl) (Ev.now _)
theorem ev_isSize (a : Int) : impl_isSize.f a = some (decide (1 ≤ a) && decide (a ≤ 7)) := by
  unfold impl_isSize.f
  by_cases h : 1 ≤ a
  · rw [if_pos h, decide_eq_true h, Bool.true_and]
  · rw [if_neg h, decide_eq_false h, Bool.false_and]
theorem ev_limits (d : Int) : spec_l10Limit.f d = some (decide (1 ≤ d) && decide (d ≤ 7)) ∧ impl_isLimit.f d = some (decide (1 ≤ d) && decide (d ≤ 7)) := by
  unfold spec_l10Limit.f impl_isLimit.f
  rw [ev_l1In', ev_isSize]
  exact ⟨rfl, rfl⟩
/-! ### the word of a limited sweep -/
theorem son_append (x y : List Int) : strOfNums (x ++ y) = strOfNums x ++ strOfNums y := by
  apply ByteArray.ext
  simp [strOfNums]
theorem son_79 : (⟨#[79]⟩ : ByteArray) = strOfNums [79] := rfl
theorem son_73 : (⟨#[73]⟩ : ByteArray) = strOfNums [73] := rfl
theorem son_size (x : List Int) : (strOfNums x).size = x.length := by simp [strOfNums, ByteArray.size]
theorem l10Word_l2 (st : List Int) (hst : st.length ≤ 100) (n : Nat) : ∀ (j : Nat) (out : List Int), j + n = st.length → out.length + n ≤ 100 → Ev (fun k => spec_l10Word.l2 k (strOfNums out) st (j : Int)) (strOfNums (out ++ List.replicate n 79)) := by
  induction n with
  | zero =>
    intro j out hj ho
    have c : ¬ (j : Int) < (st.length : Int) := by omega
    rw [List.replicate_zero, List.append_nil]
    exact Ev.step (f := fun _ => some (strOfNums out)) (fun k => by simp only [spec_l10Word.l2, c, ↓reduceIte]) (Ev.now _)
  | succ n ih =>
    intro j out hj ho
    have c : (j : Int) < (st.length : Int) := by omega
    have s : (strOfNums out).size + 1 ≤ 9223372036854775807 := by rw [son_size]; omega
    have e1 := Aside0.mk (show wrap64 ((j : Int) + 1) = ((j + 1 : Nat) : Int) from wj (by omega))
    have h := ih (j + 1) (out ++ [79]) (by omega) (by simp; omega)
    rw [List.append_assoc, show [79] ++ List.replicate n (79 : Int) = List.replicate (n + 1) 79 from by rw [List.replicate_succ]; rfl] at h
    refine Ev.step (fun k => ?_) h
    simp only [spec_l10Word.l2, c, s, e1.out, ↓reduceIte]
    rw [son_append, son_79]
/-- One more is pushed. -/
theorem l10Word_push (l : List Int) (d : Int) (i : Nat) (st out : List Int) (hl : l.length ≤ 7) (hi : i < l.length) (ho : out.length ≤ 100) (hst : st.length ≤ 100) (hd1 : 1 ≤ d)
    (hs : ∀ t x, st = t ++ [x] → ¬ x < rd l (i : Int)) (hd : ¬ (st.length : Int) = d) {r : ByteArray} (h : Ev (fun k => spec_l10Word.l0 k l d (strOfNums (out ++ [73])) (st ++ [rd l (i : Int)]) ((i + 1 : Nat) : Int)) r) : Ev (fun k => spec_l10Word.l1 k l d (strOfNums out) st (i : Int)) r := by
  have ci : (i : Int) < (l.length : Int) := by omega
  have c0i : 0 ≤ (i : Int) := by omega
  have s : (strOfNums out).size + 1 ≤ 9223372036854775807 := by rw [son_size]; omega
  have lim : st.length < 17592186044416 := by omega
  have e1 := Aside0.mk (show wrap64 ((i : Int) + 1) = ((i + 1 : Nat) : Int) from wj (by omega))
  refine Ev.step (fun k => ?_) h
  rw [son_append, ← son_73]
  rcases snoc_cases st with rfl | ⟨st, x, rfl⟩
  · have g0 : ¬ (([] : List Int).length : Int) > 0 := by simp
    simp only [spec_l10Word.l1, g0, ci, c0i, s, lim, e1.out, ↓reduceIte]
  · have hlen : (st ++ [x]).length = st.length + 1 := by simp
    have tp : ((st ++ [x]).length : Int) > 0 := by rw [hlen]; omega
    have et := Aside0.mk (show wrap64 (((st ++ [x]).length : Int) - 1) = (st.length : Int) from by rw [hlen] at hst ⊢; rw [wr (by omega) (by omega)]; omega)
    have etop : rd (st ++ [x]) (st.length : Int) = x := by rw [rd_nat]; simp
    have t0 : 0 ≤ (st.length : Int) := by omega
    have t1 : (st.length : Int) < ((st ++ [x]).length : Int) := by rw [hlen]; omega
    have hx := hs st x rfl
    simp only [spec_l10Word.l1, tp, et.out, t0, t1, etop, ci, c0i, hx, hd, s, lim, e1.out, ↓reduceIte]
/-- One comes out. -/
theorem l10Word_pop (l : List Int) (d : Int) (i : Nat) (st out : List Int) (x : Int) (hl : l.length ≤ 7) (hi : i < l.length) (ho : out.length ≤ 100) (hst : st.length ≤ 100)
    (hx : x < rd l (i : Int) ∨ ((st ++ [x]).length : Int) = d) {r : ByteArray} (h : Ev (fun k => spec_l10Word.l1 k l d (strOfNums (out ++ [79])) st (i : Int)) r) : Ev (fun k => spec_l10Word.l1 k l d (strOfNums out) (st ++ [x]) (i : Int)) r := by
  have ci : (i : Int) < (l.length : Int) := by omega
  have c0i : 0 ≤ (i : Int) := by omega
  have s : (strOfNums out).size + 1 ≤ 9223372036854775807 := by rw [son_size]; omega
  refine Ev.step (fun k => ?_) h
  rw [son_append, ← son_79]
  have hlen : (st ++ [x]).length = st.length + 1 := by simp
  have tp : ((st ++ [x]).length : Int) > 0 := by rw [hlen]; omega
  have et := Aside0.mk (show wrap64 (((st ++ [x]).length : Int) - 1) = (st.length : Int) from by rw [hlen]; rw [wr (by omega) (by omega)]; omega)
  have etop : rd (st ++ [x]) (st.length : Int) = x := by rw [rd_nat]; simp
  have t0 : 0 ≤ (st.length : Int) := by omega
  have t1 : (st.length : Int) < ((st ++ [x]).length : Int) := by rw [hlen]; omega
  have t2 : (st.length : Int) ≤ ((st ++ [x]).length : Int) := by rw [hlen]; omega
  have etake : (st ++ [x]).take ((st.length : Int)).toNat = st := by rw [Int.toNat_natCast]; simp
  by_cases hq : x < rd l (i : Int)
  · simp only [spec_l10Word.l1, tp, et.out, t0, t1, t2, etop, ci, c0i, hq, s, etake, ↓reduceIte]
  · have hd := hx.resolve_left hq
    simp only [spec_l10Word.l1, tp, et.out, t0, t1, t2, etop, ci, c0i, hq, s, etake, ↓reduceIte]
    rw [if_pos hd]
/-- What lies deeper is greater. -/
def Falls (st : List Int) : Prop := st.Pairwise fun a b => b ≤ a
theorem l10Word_main (l : List Int) (d : Int) (hl : l.length ≤ 7) (hd1 : 1 ≤ d) (m : Nat) : ∀ (i : Nat) (st out : List Int), i + m = l.length → Falls st → out.length + st.length + 2 * m ≤ 100 → (st.length : Int) ≤ d →
    Ev (fun k => spec_l10Word.l0 k l d (strOfNums out) st (i : Int)) (strOfNums (lw d (l.drop i) st.reverse out)) := by
  induction m with
  | zero =>
    intro i st out hi hf ho hst
    have c : ¬ (i : Int) < (l.length : Int) := by omega
    have h := l10Word_l2 st (by omega) st.length 0 out (by omega) (by omega)
    rw [List.drop_of_length_le (by omega)]
    unfold lw
    rw [List.length_reverse]
    exact Ev.step (fun k => by simp only [spec_l10Word.l0, c, ↓reduceIte] <;> rfl) h
  | succ m ih =>
    intro i st out hi hf ho hst
    have ci : (i : Int) < (l.length : Int) := by omega
    refine Ev.step (f := fun k => spec_l10Word.l1 k l d (strOfNums out) st (i : Int)) (fun k => by simp only [spec_l10Word.l0, ci, ↓reduceIte]) ?_
    rw [rd_drop l i (by omega)]
    have up : ∀ (st out : List Int), Falls st → out.length + st.length + 2 * m + 2 ≤ 100 → (st.length : Int) < d → (∀ t x, st = t ++ [x] → ¬ x < rd l (i : Int)) → Ev (fun k => spec_l10Word.l1 k l d (strOfNums out) st (i : Int)) (strOfNums (lw d (l.drop (i + 1)) (rd l (i : Int) :: st.reverse) (out ++ [73]))) := by
      intro st out hf ho hst hs
      have h := ih (i + 1) (st ++ [rd l (i : Int)]) (out ++ [73]) (by omega) (by
        refine List.pairwise_append.2 ⟨hf, List.pairwise_singleton _ _, ?_⟩
        intro a ha b hb
        rw [List.mem_singleton] at hb
        subst hb
        rcases snoc_cases st with rfl | ⟨t, x, rfl⟩
        · simp at ha
        · have hx := hs t x rfl
          rcases List.mem_append.1 ha with ha | ha
          · have := (List.pairwise_append.1 hf).2.2 a ha x (by simp)
            omega
          · rw [List.mem_singleton] at ha
            omega) (by simp; omega) (by simp; omega)
      rw [List.reverse_append, List.reverse_singleton, List.singleton_append] at h
      exact l10Word_push l d i st out hl (by omega) (by omega) (by omega) hd1 hs (by omega) h
    have go : ∀ (n : Nat) (st out : List Int), st.length = n → Falls st → out.length + st.length + 2 * m + 2 ≤ 100 → (st.length : Int) ≤ d → Ev (fun k => spec_l10Word.l1 k l d (strOfNums out) st (i : Int)) (strOfNums (lw d (rd l (i : Int) :: l.drop (i + 1)) st.reverse out)) := by
      intro n
      induction n with
      | zero =>
        intro st out hn hf ho hst
        obtain rfl : st = [] := List.length_eq_zero_iff.1 hn
        have := up [] out hf ho (by simp; omega) (by intro t x h; simp at h)
        rw [List.reverse_nil, lw_push d _ _ [] out (by intro x t h; cases h) (by simp; omega)]
        exact this
      | succ n ihn =>
        intro st out hn hf ho hst
        rcases snoc_cases st with rfl | ⟨t, x, rfl⟩
        · simp at hn
        · have hlen : (t ++ [x]).length = t.length + 1 := by simp
          rw [hlen] at hn ho hst
          have hft : Falls t := (List.pairwise_append.1 hf).1
          have er : (t ++ [x]).reverse = x :: t.reverse := by simp
          rw [er]
          by_cases hx : x < rd l (i : Int)
          · rw [lw_pop d _ x _ t.reverse out hx]
            exact l10Word_pop l d i t out x hl (by omega) (by omega) (by omega) (.inl hx) (ihn t (out ++ [79]) (by omega) hft (by simp; omega) (by omega))
          · by_cases hd : ((t.length + 1 : Nat) : Int) = d
            · rw [lw_full d _ x _ t.reverse out hx (by simp only [List.length_cons, List.length_reverse]; exact hd)]
              refine l10Word_pop l d i t out x hl (by omega) (by omega) (by omega) (.inr (by rw [hlen]; exact hd)) ?_
              refine up t (out ++ [79]) hft (by simp; omega) (by omega) ?_
              intro t' y hy
              subst hy
              have := (List.pairwise_append.1 hf).2.2 y (by simp) x (by simp)
              omega
            · have := up (t ++ [x]) out hf (by rw [hlen]; omega) (by rw [hlen]; omega) (by
                intro t' y hy
                have := List.append_inj' hy rfl
                have h2 := this.2
                simp only [List.cons.injEq, and_true] at h2
                omega)
              rw [er] at this
              rw [lw_push d _ _ (x :: t.reverse) out (by intro y u hy; injection hy with a b; rw [← a]; exact hx) (by simp only [List.length_cons, List.length_reverse]; exact hd)]
              exact this
    exact go st.length st out rfl hf (by omega) hst
theorem lw_len (d : Int) (hd : 1 ≤ d) : ∀ (l st out : List Int), (lw d l st out).length = out.length + st.length + 2 * l.length := by
  have hp : ∀ (n : Int) (st : List Int), (lwPop n st).1 + (lwPop n st).2.length = st.length := by
    intro n st
    induction st with
    | nil => rfl
    | cons x t ih =>
      simp only [lwPop]
      split
      · simp only [List.length_cons]; omega
      · simp
  intro l
  induction l with
  | nil => intro st out; simp [lw]
  | cons n rest ih =>
    intro st out
    have := hp n st
    simp only [lw]
    split
    · rename_i h
      rw [ih]
      simp only [List.length_append, List.length_cons, List.length_replicate, List.length_tail, List.length_nil]
      omega
    · rw [ih]
      simp only [List.length_append, List.length_cons, List.length_replicate, List.length_nil]
      omega
theorem ev_l10Word (l : List Int) (d : Int) (hl : l.length ≤ 7) (hd1 : 1 ≤ d) : Ev (fun k => spec_l10Word.f k l d) (strOfNums (lw d l [] [])) := by
  have := l10Word_main l d hl hd1 l.length 0 [] [] (by omega) List.Pairwise.nil (by simp; omega) (by simp; omega)
  exact this
/-! ### a word is run -/
/-- Behind signs: from numbers that are left, the stack (its top first) and what has come out. -/
def runL : List Int → List Int → List Int → List Int → Option (List Int)
  | [], _, _, out => some out
  | c :: t, rest, st, out => if c = 73 then (match rest with | [] => none | x :: r => runL t r (x :: st) out) else (match st with | [] => none | x :: s => runL t rest s (out ++ [x]))
theorem run_both (l : List Int) (w : ByteArray) (hl : l.length ≤ 1000) (hw : w.size ≤ 1048576) (n : Nat) : ∀ (j i : Nat) (st out r : List Int), j + n = w.size → i ≤ l.length → st.length + out.length ≤ i → runL ((bs w).drop j) (l.drop i) st.reverse out = some r →
    Ev (fun k => spec_l2Run.l0 k l w out st (i : Int) (j : Int)) r ∧ Ev (fun k => impl_runWord.l0 k (l.drop i) w st out (w.size : Int) (j : Int)) r := by
  induction n with
  | zero =>
    intro j i st out r hj hi hs h
    rw [bs_end w j (by omega)] at h
    simp only [runL, Option.some.injEq] at h
    subst h
    have c : ¬ (j : Int) < (w.size : Int) := by omega
    exact ⟨Ev.step (f := fun _ => some out) (fun k => by simp only [spec_l2Run.l0, c, ↓reduceIte]) (Ev.now _), Ev.step (f := fun _ => some out) (fun k => by simp only [impl_runWord.l0, c, ↓reduceIte]) (Ev.now _)⟩
  | succ n ih =>
    intro j i st out r hj hi hs h
    rw [bs_drop w j (by omega)] at h
    have c : (j : Int) < (w.size : Int) := by omega
    have c0 : 0 ≤ (j : Int) := by omega
    have ej := Aside0.mk (show wrap64 ((j : Int) + 1) = ((j + 1 : Nat) : Int) from wj (by omega))
    have c0i : 0 ≤ (i : Int) := by omega
    simp only [runL] at h
    by_cases hI : bt w (j : Int) = 73
    · rw [if_pos hI] at h
      by_cases hil : i < l.length
      · have ci : (i : Int) < (l.length : Int) := by omega
        have ei := Aside0.mk (show wrap64 ((i : Int) + 1) = ((i + 1 : Nat) : Int) from wj (by omega))
        rw [rd_drop l i hil] at h
        dsimp only at h
        obtain ⟨h1, h2⟩ := ih (j + 1) (i + 1) (st ++ [rd l (i : Int)]) out r (by omega) (by omega) (by simp; omega) (by rw [List.reverse_append, List.reverse_singleton, List.singleton_append]; exact h)
        have lim : st.length < 17592186044416 := by omega
        have g0 : 0 < ((l.drop i).length : Int) := by rw [List.length_drop]; omega
        have g1 : 1 ≤ ((l.drop i).length : Int) := by omega
        have e0 : rd (l.drop i) 0 = rd l (i : Int) := by rw [rd_drop l i hil]; rfl
        refine ⟨Ev.step (fun k => ?_) h1, Ev.step (fun k => ?_) h2⟩
        · simp only [spec_l2Run.l0, c, c0, hI, ci, c0i, lim, ei.out, ej.out, ↓reduceIte]
        · simp only [impl_runWord.l0, c, c0, hI, g0, g1, lim, e0, ej.out, List.drop_drop, ↓reduceIte]
      · rw [List.drop_of_length_le (by omega)] at h
        cases h
    · rw [if_neg hI] at h
      rcases snoc_cases st with rfl | ⟨st, x, rfl⟩
      · cases h
      · rw [show (st ++ [x]).reverse = x :: st.reverse by simp] at h
        dsimp only at h
        have hlen : (st ++ [x]).length = st.length + 1 := by simp
        rw [hlen] at hs
        obtain ⟨h1, h2⟩ := ih (j + 1) i st (out ++ [x]) r (by omega) hi (by simp; omega) h
        have et := Aside0.mk (show wrap64 (((st ++ [x]).length : Int) - 1) = (st.length : Int) from by rw [hlen, wr (by omega) (by omega)]; omega)
        have etop : rd (st ++ [x]) (st.length : Int) = x := by rw [rd_nat]; simp
        have t0 : 0 ≤ (st.length : Int) := by omega
        have t1 : (st.length : Int) < ((st ++ [x]).length : Int) := by rw [hlen]; omega
        have t2 : (st.length : Int) ≤ ((st ++ [x]).length : Int) := by rw [hlen]; omega
        have etake : (st ++ [x]).take ((st.length : Int)).toNat = st := by rw [Int.toNat_natCast]; simp
        have lim : out.length < 17592186044416 := by omega
        refine ⟨Ev.step (fun k => ?_) h1, Ev.step (fun k => ?_) h2⟩
        · simp only [spec_l2Run.l0, c, c0, hI, et.out, t0, t1, t2, etop, etake, lim, ej.out, ↓reduceIte]
        · simp only [impl_runWord.l0, c, c0, hI, et.out, t0, t1, t2, etop, etake, lim, ej.out, ↓reduceIte]
theorem ev_run (l : List Int) (w : ByteArray) (hl : l.length ≤ 1000) (hw : w.size ≤ 1048576) {r : List Int} (h : runL (bs w) l [] [] = some r) : Ev (fun k => spec_l2Run.f k l w) r ∧ Ev (fun k => impl_runWord.f k l w) r := by
  have := run_both l w hl hw w.size 0 0 [] [] r (by omega) (by omega) (by simp) (by rw [List.drop_zero, List.drop_zero]; exact h)
  rw [List.drop_zero] at this
  exact this
/-! ### a limited sweep, on lists: what comes out -/
def sw (d : Int) : List Int → List Int → List Int → List Int
  | [], st, out => out ++ st
  | n :: rest, st, out => if ((st.drop (lwPop n st).1).length : Int) = d then sw d rest (n :: (st.drop (lwPop n st).1).tail) (out ++ st.take (lwPop n st).1 ++ (st.drop (lwPop n st).1).take 1) else sw d rest (n :: st.drop (lwPop n st).1) (out ++ st.take (lwPop n st).1)
theorem lwPop_drop (n : Int) : ∀ st, (lwPop n st).2 = st.drop (lwPop n st).1 ∧ (lwPop n st).1 ≤ st.length
  | [] => ⟨rfl, Nat.le_refl _⟩
  | x :: t => by
    have ih := lwPop_drop n t
    simp only [lwPop]
    split
    · exact ⟨by simpa using ih.1, by simpa using ih.2⟩
    · exact ⟨rfl, by simp⟩
theorem lw_out (d : Int) : ∀ (l st out : List Int), lw d l st out = out ++ lw d l st []
  | [], st, out => by simp [lw]
  | n :: rest, st, out => by
    simp only [lw]
    split
    · rw [lw_out d rest _ (out ++ _ ++ _ ++ _), lw_out d rest _ ([] ++ _ ++ _ ++ _)]; simp
    · rw [lw_out d rest _ (out ++ _ ++ _), lw_out d rest _ ([] ++ _ ++ _)]; simp
theorem runL_pops (m : Nat) : ∀ (t rest st out : List Int), m ≤ st.length → runL (List.replicate m 79 ++ t) rest st out = runL t rest (st.drop m) (out ++ st.take m) := by
  induction m with
  | zero => intro t rest st out h; simp
  | succ m ih =>
    intro t rest st out h
    cases st with
    | nil => simp at h
    | cons x s =>
      rw [List.replicate_succ, List.cons_append]
      simp only [runL]
      rw [if_neg (by decide), ih t rest s _ (by simpa using h)]
      simp
theorem run_lw (d : Int) (hd : 1 ≤ d) : ∀ (l st o : List Int), runL (lw d l st []) l st o = some (sw d l st o)
  | [], st, o => by
    have h := runL_pops st.length [] [] st o (Nat.le_refl _)
    rw [List.append_nil] at h
    simp only [lw, sw, List.nil_append]
    rw [h]
    simp [runL]
  | n :: rest, st, o => by
    obtain ⟨e, hle⟩ := lwPop_drop n st
    have ih := run_lw d hd rest
    simp only [lw, sw, e]
    split
    · rename_i h
      rw [lw_out, List.nil_append, List.append_assoc, List.append_assoc, runL_pops _ _ _ _ _ hle]
      cases hs : st.drop (lwPop n st).1 with
      | nil => rw [hs] at h; simp at h; omega
      | cons x s =>
        simp only [List.singleton_append, runL]
        simp only [show ¬ (79 : Int) = 73 by decide, List.tail_cons, ↓reduceIte]
        rw [ih]
        simp
    · rw [lw_out, List.nil_append, List.append_assoc, runL_pops _ _ _ _ _ hle]
      simp only [List.singleton_append, runL, ↓reduceIte]
      rw [ih]
theorem sw_perm (d : Int) : ∀ (l st o : List Int), (sw d l st o).Perm (o ++ st ++ l)
  | [], st, o => by simp [sw]
  | n :: rest, st, o => by
    have hsplit : ∀ m, st.take m ++ st.drop m = st := fun m => List.take_append_drop m st
    simp only [sw]
    split
    · refine (sw_perm d rest _ _).trans ?_
      generalize (lwPop n st).1 = m
      have e : (st.drop m).take 1 ++ (st.drop m).tail = st.drop m := by cases st.drop m <;> simp
      have : o ++ st ++ n :: rest = o ++ (st.take m ++ ((st.drop m).take 1 ++ (st.drop m).tail)) ++ n :: rest := by rw [e, hsplit]
      rw [this]
      simp only [List.append_assoc, List.cons_append]
      refine List.Perm.append_left o (List.Perm.append_left _ (List.Perm.append_left _ ?_))
      exact (List.perm_middle).symm
    · refine (sw_perm d rest _ _).trans ?_
      generalize (lwPop n st).1 = m
      have : o ++ st ++ n :: rest = o ++ (st.take m ++ st.drop m) ++ n :: rest := by rw [hsplit]
      rw [this]
      simp only [List.append_assoc, List.cons_append]
      refine List.Perm.append_left o (List.Perm.append_left _ ?_)
      exact (List.perm_middle).symm
theorem sw_len (d : Int) (l : List Int) : (sw d l [] []).length = l.length := by
  have := (sw_perm d l [] []).length_eq
  simpa using this
theorem lw_byte (d : Int) : ∀ (l st out : List Int), (∀ c ∈ out, c = 73 ∨ c = 79) → ∀ c ∈ lw d l st out, c = 73 ∨ c = 79
  | [], st, out, h => by
    intro c hc
    simp only [lw, List.mem_append, List.mem_replicate] at hc
    rcases hc with hc | hc
    · exact h c hc
    · exact .inr hc.2
  | n :: rest, st, out, h => by
    simp only [lw]
    split
    · refine lw_byte d rest _ _ ?_
      intro c hc
      simp only [List.mem_append, List.mem_replicate, List.mem_singleton] at hc
      rcases hc with ((hc | hc) | hc) | hc
      · exact h c hc
      · exact .inr hc.2
      · exact .inr hc
      · exact .inl hc
    · refine lw_byte d rest _ _ ?_
      intro c hc
      simp only [List.mem_append, List.mem_replicate, List.mem_singleton] at hc
      rcases hc with (hc | hc) | hc
      · exact h c hc
      · exact .inr hc.2
      · exact .inl hc
theorem bs_son (x : List Int) (h : ∀ c ∈ x, c = 73 ∨ c = 79) : bs (strOfNums x) = x := by
  unfold bs strOfNums
  simp only [List.map_map]
  refine (List.map_congr_left ?_).trans (List.map_id x)
  intro c hc
  rcases h c hc with rfl | rfl <;> rfl
theorem ev_sweep (l : List Int) (d : Int) (hl : l.length ≤ 7) (hd1 : 1 ≤ d) : Ev (fun k => spec_l10Sweep.f k l d) (sw d l [] []) ∧ Ev (fun k => impl_limitedSweep.f k l d) (sw d l [] []) := by
  have hb : bs (strOfNums (lw d l [] [])) = lw d l [] [] := bs_son _ (lw_byte d l [] [] (by intro c hc; cases hc))
  have hr := run_lw d hd1 l [] []
  rw [← hb] at hr
  have hsz : (strOfNums (lw d l [] [])).size ≤ 1048576 := by rw [son_size, lw_len d hd1]; simp; omega
  obtain ⟨r1, r2⟩ := ev_run l _ (by omega) hsz hr
  unfold spec_l10Sweep.f impl_limitedSweep.f
  refine ⟨Ev.bind (ev_l10Word l d hl hd1) (Ev.bind r1 (Ev.now _)), ?_⟩
  have c : 1 ≤ d ∧ l.length ≤ 1000 := ⟨hd1, by omega⟩
  simp only [impl_limitedWord.f, if_pos c, Option.bind_some]
  exact Ev.bind r2 (Ev.now _)
/-! ### copies of lists, lists compared -/
theorem ev_toIntS_l0 (l : List Int) (hl : l.length ≤ 1048576) (d : Nat) : ∀ j : Nat, j + d = l.length → Ev (fun k => laws_toIntS.l0 k l (l.take j ++ List.replicate (l.length - j) 0) (j : Int)) l := by
  induction d with
  | zero =>
    intro j hj
    have c : ¬ (j : Int) < (l.length : Int) := by omega
    have e : l.take j ++ List.replicate (l.length - j) 0 = l := by rw [List.take_of_length_le (by omega), show l.length - j = 0 by omega]; simp
    rw [e]
    exact Ev.step (fun k => by simp only [laws_toIntS.l0, c, ↓reduceIte] <;> rfl) (Ev.now _)
  | succ d ih =>
    intro j hj
    have c : (j : Int) < (l.length : Int) := by omega
    have c0 : 0 ≤ (j : Int) := by omega
    have c1 : (j : Int) < (((l.take j ++ List.replicate (l.length - j) 0).length : Nat) : Int) := by simp; omega
    have e1 : wrap64 ((j : Int) + 1) = ((j + 1 : Nat) : Int) := wj (by omega)
    exact Ev.step (fun k => by simp only [laws_toIntS.l0, c, c0, c1, ↓reduceIte]; rw [e1, Int.toNat_natCast, set_copy l j (by omega)]) (ih (j + 1) (by omega))
theorem ev_toIntS (l : List Int) (hl : l.length ≤ 1048576) : Ev (fun k => laws_toIntS.f k l) l := by
  have c0 : 0 ≤ (l.length : Int) := by omega
  have c1 : l.length ≤ 35184372088832 := by omega
  have := ev_toIntS_l0 l hl l.length 0 (by omega)
  simp only [List.take_zero, List.nil_append, Nat.sub_zero] at this
  simp only [laws_toIntS.f, c0, c1, Int.toNat_natCast, ↓reduceIte]
  exact this
theorem ev_eqIntS_l0 (l : List Int) (hl : l.length < 9223372036854775807) (d : Nat) : ∀ j : Nat, j + d = l.length → Ev (fun k => laws_eqIntS.l0 k l l (j : Int)) true := by
  induction d with
  | zero =>
    intro j hj
    have c : ¬ (j : Int) < (l.length : Int) := by omega
    exact Ev.step (fun k => by simp only [laws_eqIntS.l0, c, ↓reduceIte] <;> rfl) (Ev.now _)
  | succ d ih =>
    intro j hj
    have c : (j : Int) < (l.length : Int) := by omega
    have c0 : 0 ≤ (j : Int) := by omega
    have e1 : wrap64 ((j : Int) + 1) = ((j + 1 : Nat) : Int) := wj (by omega)
    exact Ev.step (fun k => by simp only [laws_eqIntS.l0, c, c0, e1, ↓reduceIte] <;> rfl) (ih (j + 1) (by omega))
/-- A list is equal to itself. -/
theorem ev_eqIntS (l : List Int) (hl : l.length < 9223372036854775807) : Ev (fun k => laws_eqIntS.f k l l) true := by
  simp only [laws_eqIntS.f, ↓reduceIte]
  exact ev_eqIntS_l0 l hl l.length 0 (by omega)
/-! ### marks are laid, and held -/
theorem ev_markIntS_l0 (l : List Int) (b : Int) (hb0 : 0 ≤ b) (hb : b ≤ 4000000000) (hl : l.length ≤ 4000000000) (d : Nat) : ∀ j : Nat, j + d = l.length → Ev (fun k => laws_markIntS.l0 k (iota b j ++ l.drop j) (b + (j : Int)) (j : Int)) (b + (l.length : Int), iota b l.length) := by
  induction d with
  | zero =>
    intro j hj
    obtain rfl : j = l.length := by omega
    rw [List.drop_of_length_le (Nat.le_refl _), List.append_nil]
    have c : ¬ (l.length : Int) < ((iota b l.length).length : Int) := by rw [iota_length]; omega
    exact Ev.step (f := fun _ => some (b + (l.length : Int), iota b l.length)) (fun k => by simp only [laws_markIntS.l0, c, ↓reduceIte]) (Ev.now _)
  | succ d ih =>
    intro j hj
    have c : (j : Int) < ((iota b j ++ l.drop j).length : Int) := by rw [List.length_append, iota_length, List.length_drop]; omega
    have c0 : 0 ≤ (j : Int) := by omega
    have e1 : wrap64 ((j : Int) + 1) = ((j + 1 : Nat) : Int) := wj (by omega)
    have e2 : wrap64 (b + (j : Int) + 1) = b + ((j + 1 : Nat) : Int) := by rw [wr (by omega) (by omega)]; omega
    refine Ev.step (fun k => ?_) (ih (j + 1) (by omega))
    simp only [laws_markIntS.l0, c, c0, e1, e2, Int.toNat_natCast, ↓reduceIte]
    rw [set_iota b l j (by omega)]
theorem ev_markIntS (l : List Int) (b : Int) (hb0 : 0 ≤ b) (hb : b ≤ 4000000000) (hl : l.length ≤ 4000000000) : Ev (fun k => laws_markIntS.f k l b) (b + (l.length : Int), iota b l.length) := by
  have := ev_markIntS_l0 l b hb0 hb hl l.length 0 (by omega)
  simp only [List.drop_zero, iota, List.range_zero, List.map_nil, List.nil_append, Int.natCast_zero, Int.add_zero] at this
  exact this
theorem ev_heldIntS_l0 (n : Nat) (b : Int) (hb0 : 0 ≤ b) (hb : b ≤ 4000000000) (hl : n ≤ 4000000000) (d : Nat) : ∀ j : Nat, j + d = n → Ev (fun k => laws_heldIntS.l0 k (iota b n) (b + (j : Int)) (j : Int)) (b + (n : Int)) := by
  induction d with
  | zero =>
    intro j hj
    obtain rfl : j = n := by omega
    have c : ¬ (j : Int) < ((iota b j).length : Int) := by rw [iota_length]; omega
    exact Ev.step (f := fun _ => some (b + (j : Int))) (fun k => by simp only [laws_heldIntS.l0, c, ↓reduceIte]) (Ev.now _)
  | succ d ih =>
    intro j hj
    have c : (j : Int) < ((iota b n).length : Int) := by rw [iota_length]; omega
    have c0 : 0 ≤ (j : Int) := by omega
    have e1 : wrap64 ((j : Int) + 1) = ((j + 1 : Nat) : Int) := wj (by omega)
    have e2 : wrap64 (b + (j : Int) + 1) = b + ((j + 1 : Nat) : Int) := by rw [wr (by omega) (by omega)]; omega
    have e3 := rd_iota b n j (by omega)
    refine Ev.step (fun k => ?_) (ih (j + 1) (by omega))
    simp only [laws_heldIntS.l0, c, c0, e3, e1, e2, ↓reduceIte]
theorem ev_heldIntS (n : Nat) (b : Int) (hb0 : 0 ≤ b) (hb : b ≤ 4000000000) (hl : n ≤ 4000000000) : Ev (fun k => laws_heldIntS.f k (iota b n) b) (b + (n : Int)) := by
  have := ev_heldIntS_l0 n b hb0 hb hl n 0 (by omega)
  simp only [Int.natCast_zero, Int.add_zero] at this
  exact this
theorem both_LimitedSweep (l : List Int) (d : Int) : ∃ (r : List Int) (b : Bool), r.length ≤ 1048576 ∧ Ev (fun k => spec_LimitedSweep.f k l d) (r, b) ∧ Ev (fun k => impl_LimitedSweep.f k l d) (r, b) := by
  obtain ⟨e1, e2⟩ := ev_limits d
  unfold spec_LimitedSweep.f impl_LimitedSweep.f
  cases ho : ordB l with
  | false =>
    refine ⟨[], false, by decide, Ev.bind (ev_l2Order l) ?_, Ev.bind (ev_isOrder l) ?_⟩
    · rw [ho]
      simp only [Bool.false_eq_true, ↓reduceIte]
      exact Ev.now _
    · rw [ho]
      simp only [Bool.false_eq_true, ↓reduceIte]
      exact Ev.now _
  | true =>
    cases hd : (decide (1 ≤ d) && decide (d ≤ 7)) with
    | false =>
      refine ⟨[], false, by decide, Ev.bind (ev_l2Order l) ?_, Ev.bind (ev_isOrder l) ?_⟩
      · rw [ho]
        simp only [e1, hd, Option.bind_some, Bool.false_eq_true, ↓reduceIte]
        exact Ev.now _
      · rw [ho]
        simp only [e2, hd, Option.bind_some, Bool.false_eq_true, ↓reduceIte]
        exact Ev.now _
    | true =>
      obtain ⟨h1, h7⟩ := ordB_len ho
      have hd' := hd
      simp only [Bool.and_eq_true, decide_eq_true_eq] at hd'
      obtain ⟨s1, s2⟩ := ev_sweep l d h7 hd'.1
      refine ⟨sw d l [] [], true, by rw [sw_len]; omega, Ev.bind (ev_l2Order l) ?_, Ev.bind (ev_isOrder l) ?_⟩
      · rw [ho]
        simp only [e1, hd, Option.bind_some, ↓reduceIte]
        exact Ev.bind s1 (Ev.now _)
      · rw [ho]
        simp only [e2, hd, Option.bind_some, ↓reduceIte]
        exact Ev.bind s2 (Ev.now _)
theorem FnExactLimitedSweep : laws_FnExactLimitedSweep.Pure := by
  intro l d _ _ _ _
  by_cases hl : (l.length : Int) > 1048576
  · exact ⟨0, by simp only [laws_FnExactLimitedSweep.f, hl, ↓reduceIte]⟩
  · have hl' : l.length ≤ 1048576 := by omega
    obtain ⟨r, b, hr, ⟨K1, h1⟩, ⟨K2, h2⟩⟩ := both_LimitedSweep l d
    obtain ⟨K3, h3⟩ := ev_toIntS l hl'
    obtain ⟨K4, h4⟩ := ev_eqIntS r (by omega)
    obtain ⟨K5, h5⟩ := ev_eqIntS l (by omega)
    obtain ⟨K6, h6⟩ := ev_markIntS l 1 (by omega) (by omega) (by omega)
    obtain ⟨K7, h7⟩ := ev_markIntS r 1 (by omega) (by omega) (by omega)
    obtain ⟨K8, h8⟩ := ev_heldIntS r.length 1 (by omega) (by omega) (by omega)
    have n1 : ¬ (1 + (l.length : Int)) < 0 := by omega
    have n2 : ¬ (1 + (r.length : Int)) < 0 := by omega
    dsimp only at h1 h2 h3 h4 h5 h6 h7 h8
    refine ⟨K1 + K2 + K3 + K4 + K5 + K6 + K7 + K8 + 10, ?_⟩
    simp only [laws_FnExactLimitedSweep.f]
    repeat first
      | with_reducible rfl
      | (with_reducible refine bind_of (h1 _ (by omega)) ?_; try dsimp only)
      | (with_reducible refine bind_of (h2 _ (by omega)) ?_; try dsimp only)
      | (with_reducible refine bind_of (h3 _ (by omega)) ?_; try dsimp only)
      | (with_reducible refine bind_of (h4 _ (by omega)) ?_; try dsimp only)
      | (with_reducible refine bind_of (h5 _ (by omega)) ?_; try dsimp only)
      | (with_reducible refine bind_of (h6 _ (by omega)) ?_; try dsimp only)
      | (with_reducible refine bind_of (h7 _ (by omega)) ?_; try dsimp only)
      | (with_reducible refine bind_of (h8 _ (by omega)) ?_; try dsimp only)
      | rw [if_pos rfl]
      | rw [bne_self_eq_false]
      | rw [if_neg Bool.false_ne_true]
      | rw [if_neg hl]
      | rw [if_neg n1]
      | rw [if_neg n2]
      | simp only [laws_FnExactLimitedSweep.j0]
      | simp only [laws_FnExactLimitedSweep.j1]
      | simp only [laws_FnExactLimitedSweep.j2]

end Go.Proofs.Ytppfobgmbjjdhaa.Pure
