/- CountLimitedSweeps: the program and the reference tell the same of every list (of at most 1048576 numbers: of longer ones the law says nothing) and every limit, and the list stays as it was. -/
import Derived.Test.YtppfobgmbjjdhaaXa11
import Derived.Test.YtppfobgmbjjdhaaXa10
import Derived.Test.YtppfobgmbjjdhaaXa3
import Derived.Test.YtppfobgmbjjdhaaXa2
import Derived.Test.YtppfobgmbjjdhaaXa4
import Derived.Test.YtppfobgmbjjdhaaXaHlimited
import Derived.Test.YtppfobgmbjjdhaaXa1
import Derived.Test.YtppfobgmbjjdhaaXa9
import Derived.Test.YtppfobgmbjjdhaaXa8
import Derived.Test.YtppfobgmbjjdhaaPk
set_option linter.unusedVariables false
set_option linter.unusedSimpArgs false
namespace Go.Proofs.Ytppfobgmbjjdhaa.Pure
open Go.RowKit Go.Proofs.Ytppfobgmbjjdhaa.Xa Go.Proofs.YtppfobgmbjjdhaaW.PrintWords Go.Proofs.YtppfobgmbjjdhaaW.PrintLast Go.Proofs.Ytppfobgmbjjdhaa.Pk

theorem ev_l1In' (a b c : Int) : spec_l1In.f a b c = some (decide (b ≤ a) && decide (a ≤ c)) := by
  unfold spec_l1In.f
  by_cases h : b ≤ a
  · rw [if_pos h, decide_eq_true h, Bool.true_and]
  · rw [if_neg h, decide_eq_false h, Bool.false_and]
/-! ### is a list an order? -/
theorem ev_l1Has_l0 (l : List Int) (x : Int) (hl : l.length < 9223372036854775807) (d : Nat) : ∀ j : Nat, j + d = l.length → Ev (fun k => spec_l1Has.l0 k l x (j : Int)) ((l.drop j).contains x) := by
  induction d with
  | zero =>
    intro j hj
    have c : ¬ (j : Int) < (l.length : Int) := by omega
    rw [List.drop_of_length_le (by omega)]
    exact Ev.step (fun k => by simp only [spec_l1Has.l0, c, ↓reduceIte] <;> rfl) (Ev.now _)
  | succ d ih =>
    intro j hj
    have c : (j : Int) < (l.length : Int) := by omega
    have c0 : 0 ≤ (j : Int) := by omega
    have e1 : wrap64 ((j : Int) + 1) = ((j + 1 : Nat) : Int) := wj (by omega)
    rw [rd_drop l j (by omega), List.contains_cons]
    by_cases h : rd l (j : Int) = x
    · have : (x == rd l (j : Int)) = true := by rw [h]; exact beq_self_eq_true x
      rw [this, Bool.true_or]
      exact Ev.step (fun k => by simp only [spec_l1Has.l0, c, c0, h, ↓reduceIte] <;> rfl) (Ev.now _)
    · have : (x == rd l (j : Int)) = false := beq_eq_false_iff_ne.2 (fun e => h e.symm)
      rw [this, Bool.false_or]
      exact Ev.step (fun k => by simp only [spec_l1Has.l0, c, c0, h, e1, ↓reduceIte]) (ih (j + 1) (by omega))
theorem ev_l1Has (l : List Int) (x : Int) (hl : l.length < 9223372036854775807) : Ev (fun k => spec_l1Has.f k l x) (l.contains x) := by
  have := ev_l1Has_l0 l x hl l.length 0 (by omega)
  rw [List.drop_zero] at this
  exact this
theorem ev_Index_l0 (l : List Int) (x : Int) (hl : l.length < 9223372036854775807) (d : Nat) : ∀ j : Nat, j + d = l.length → ∃ r : Int, Ev (fun k => slices_Index_int_int.l0 k l x (l.length : Int) (j : Int)) r ∧ decide (r ≥ 0) = (l.drop j).contains x := by
  induction d with
  | zero =>
    intro j hj
    have c : ¬ (j : Int) < (l.length : Int) := by omega
    rw [List.drop_of_length_le (by omega)]
    exact ⟨-1, Ev.step (fun k => by simp only [slices_Index_int_int.l0, c, ↓reduceIte] <;> rfl) (Ev.now _), rfl⟩
  | succ d ih =>
    intro j hj
    have c : (j : Int) < (l.length : Int) := by omega
    have c0 : 0 ≤ (j : Int) := by omega
    have e1 : wrap64 ((j : Int) + 1) = ((j + 1 : Nat) : Int) := wj (by omega)
    rw [rd_drop l j (by omega), List.contains_cons]
    by_cases h : x = rd l (j : Int)
    · have : (x == rd l (j : Int)) = true := beq_iff_eq.2 h
      rw [this, Bool.true_or]
      exact ⟨j, Ev.step (fun k => by simp only [slices_Index_int_int.l0, c, c0, ↓reduceIte]; rw [if_pos h]) (Ev.now _), by simp⟩
    · have : (x == rd l (j : Int)) = false := beq_eq_false_iff_ne.2 h
      rw [this, Bool.false_or]
      obtain ⟨r, hr, hd⟩ := ih (j + 1) (by omega)
      exact ⟨r, Ev.step (fun k => by simp only [slices_Index_int_int.l0, c, c0, h, e1, ↓reduceIte]) hr, hd⟩
theorem ev_Contains (l : List Int) (x : Int) (hl : l.length < 9223372036854775807) : Ev (fun k => slices_Contains_int_int.f k l x) (l.contains x) := by
  obtain ⟨r, hr, hd⟩ := ev_Index_l0 l x hl l.length 0 (by omega)
  rw [List.drop_zero] at hd
  unfold slices_Contains_int_int.f slices_Index_int_int.f
  refine Ev.bind hr ?_
  rw [hd]
  exact Ev.now _
theorem ev_l2Order_l0 (l : List Int) (hl : l.length ≤ 7) (d : Nat) : ∀ j : Nat, j + d = l.length → Ev (fun k => spec_l2Order.l0 k l (j : Int)) (chk l.length (l.take j) (l.drop j)) := by
  induction d with
  | zero =>
    intro j hj
    have c : ¬ (j : Int) < (l.length : Int) := by omega
    rw [List.drop_of_length_le (by omega)]
    exact Ev.step (fun k => by simp only [spec_l2Order.l0, c, ↓reduceIte] <;> rfl) (Ev.now _)
  | succ d ih =>
    intro j hj
    have c : (j : Int) < (l.length : Int) := by omega
    have c0 : 0 ≤ (j : Int) := by omega
    have c1 : (j : Int) ≤ (l.length : Int) := by omega
    have e1 : wrap64 ((j : Int) + 1) = ((j + 1 : Nat) : Int) := wj (by omega)
    rw [rd_drop l j (by omega), chk, ← take_succ l j (by omega)]
    by_cases h : (decide (1 ≤ rd l (j : Int)) && decide (rd l (j : Int) ≤ (l.length : Int))) = true
    · rw [h, Bool.true_and]
      refine Ev.step (f := fun k => (spec_l1Has.f k (l.take j) (rd l (j : Int))).bind fun t => if t = true then some false else spec_l2Order.l0 k l ((j + 1 : Nat) : Int)) (fun k => by simp only [spec_l2Order.l0, c, c0, c1, ev_l1In', h, e1, Option.bind_some, Int.toNat_natCast, ↓reduceIte]) ?_
      refine Ev.bind (ev_l1Has (l.take j) _ (by rw [List.length_take]; omega)) ?_
      cases hc : (l.take j).contains (rd l (j : Int)) with
      | true =>
        simp only [↓reduceIte, Bool.not_true, Bool.false_and]
        exact Ev.now _
      | false =>
        simp only [Bool.false_eq_true, ↓reduceIte, Bool.not_false, Bool.true_and]
        exact ih (j + 1) (by omega)
    · have h' := Bool.eq_false_iff.2 h
      rw [h', Bool.false_and, Bool.false_and]
      exact Ev.step (fun k => by simp only [spec_l2Order.l0, c, c0, ev_l1In', h', Option.bind_some, Bool.false_eq_true, ↓reduceIte] <;> rfl) (Ev.now _)
theorem ev_l2Order (l : List Int) : Ev (fun k => spec_l2Order.f k l) (ordB l) := by
  unfold spec_l2Order.f ordB
  simp only [ev_l1In', Option.bind_some]
  by_cases h1 : 1 ≤ l.length
  · have g1 : (1 : Int) ≤ (l.length : Int) := by omega
    by_cases h7 : l.length ≤ 7
    · have g7 : (l.length : Int) ≤ 7 := by omega
      have := ev_l2Order_l0 l h7 l.length 0 (by omega)
      simp only [h1, h7, g1, g7, decide_true, Bool.and_true, Bool.true_and, ↓reduceIte]
      rw [List.take_zero, List.drop_zero] at this
      exact this
    · have g7 : ¬ (l.length : Int) ≤ 7 := by omega
      simp only [h7, g7, decide_false, Bool.and_false, Bool.false_and, Bool.false_eq_true, ↓reduceIte]
      exact Ev.now _
  · have g1 : ¬ (1 : Int) ≤ (l.length : Int) := by omega
    simp only [h1, g1, decide_false, Bool.false_and, Bool.false_eq_true, ↓reduceIte]
    exact Ev.now _
theorem ev_isOrder_l0 (l : List Int) (hl : l.length ≤ 7) (d : Nat) : ∀ j : Nat, j + d = l.length → Ev (fun k => impl_isOrder.l0 k l l (l.length : Int) (j : Int)) (chk l.length (l.take j) (l.drop j)) := by
  induction d with
  | zero =>
    intro j hj
    have c : ¬ (j : Int) < (l.length : Int) := by omega
    rw [List.drop_of_length_le (by omega)]
    exact Ev.step (fun k => by simp only [impl_isOrder.l0, c, ↓reduceIte] <;> rfl) (Ev.now _)
  | succ d ih =>
    intro j hj
    have c : (j : Int) < (l.length : Int) := by omega
    have c0 : 0 ≤ (j : Int) := by omega
    have c1 : (j : Int) ≤ (l.length : Int) := by omega
    have e1 : wrap64 ((j : Int) + 1) = ((j + 1 : Nat) : Int) := wj (by omega)
    rw [rd_drop l j (by omega), chk, ← take_succ l j (by omega)]
    by_cases h1 : 1 ≤ rd l (j : Int)
    · have g1 : ¬ rd l (j : Int) < 1 := by omega
      by_cases h2 : rd l (j : Int) ≤ (l.length : Int)
      · have g2 : ¬ rd l (j : Int) > (l.length : Int) := by omega
        simp only [h1, h2, decide_true, Bool.true_and]
        refine Ev.step (f := fun k => (slices_Contains_int_int.f k (l.take j) (rd l (j : Int))).bind fun t => if t = true then some false else impl_isOrder.l0 k l l (l.length : Int) ((j + 1 : Nat) : Int)) (fun k => by simp only [impl_isOrder.l0, c, c0, c1, g1, g2, e1, Int.toNat_natCast, ↓reduceIte]) ?_
        refine Ev.bind (ev_Contains (l.take j) _ (by rw [List.length_take]; omega)) ?_
        cases hc : (l.take j).contains (rd l (j : Int)) with
        | true =>
          simp only [↓reduceIte, Bool.not_true, Bool.false_and]
          exact Ev.now _
        | false =>
          simp only [Bool.false_eq_true, ↓reduceIte, Bool.not_false, Bool.true_and]
          exact ih (j + 1) (by omega)
      · have g2 : rd l (j : Int) > (l.length : Int) := by omega
        simp only [h2, decide_false, Bool.and_false, Bool.false_and]
        exact Ev.step (fun k => by simp only [impl_isOrder.l0, c, c0, g1, g2, ↓reduceIte] <;> rfl) (Ev.now _)
    · have g1 : rd l (j : Int) < 1 := by omega
      simp only [h1, decide_false, Bool.false_and]
      exact Ev.step (fun k => by simp only [impl_isOrder.l0, c, c0, g1, ↓reduceIte] <;> rfl) (Ev.now _)
theorem ev_isOrder (l : List Int) : Ev (fun k => impl_isOrder.f k l) (ordB l) := by
  unfold impl_isOrder.f ordB
  by_cases h1 : 1 ≤ l.length
  · have g1 : ¬ (l.length : Int) < 1 := by omega
    by_cases h7 : l.length ≤ 7
    · have g7 : ¬ (l.length : Int) > 7 := by omega
      have := ev_isOrder_l0 l h7 l.length 0 (by omega)
      simp only [h1, h7, g1, g7, decide_true, decide_false, Bool.true_and, ↓reduceIte]
      refine Ev.step (fun k => by simp only [impl_isOrder.j0, Bool.false_eq_true, ↓reduceIte] <;> rfl) ?_
      rw [List.take_zero, List.drop_zero] at this
      exact this
    · have g7 : (l.length : Int) > 7 := by omega
      simp only [h7, g1, g7, decide_true, decide_false, Bool.and_false, Bool.false_and, ↓reduceIte]
      exact Ev.step (fun k => by simp only [impl_isOrder.j0, ↓reduceIte] <;> rfl) (Ev.now _)
  · have g1 : (l.length : Int) < 1 := by omega
    simp only [h1, g1, decide_false, Bool.false_and, ↓reduceIte]
    exact Ev.step (fun k => by simp only [impl_isOrder.j0, ↓reduceIte] <;> rfl) (Ev.now _)
theorem ev_isSize (a : Int) : impl_isSize.f a = some (decide (1 ≤ a) && decide (a ≤ 7)) := by
  unfold impl_isSize.f
  by_cases h : 1 ≤ a
  · rw [if_pos h, decide_eq_true h, Bool.true_and]
  · rw [if_neg h, decide_eq_false h, Bool.false_and]
theorem ev_limits (d : Int) : spec_l10Limit.f d = some (decide (1 ≤ d) && decide (d ≤ 7)) ∧ impl_isLimit.f d = some (decide (1 ≤ d) && decide (d ≤ 7)) := by
  unfold spec_l10Limit.f impl_isLimit.f
  rw [ev_l1In', ev_isSize]
  exact ⟨rfl, rfl⟩
/-! ### the word of a limited sweep -/
theorem son_append (x y : List Int) : strOfNums (x ++ y) = strOfNums x ++ strOfNums y := by
  apply ByteArray.ext
  simp [strOfNums]
theorem son_79 : (⟨#[79]⟩ : ByteArray) = strOfNums [79] := rfl
theorem son_73 : (⟨#[73]⟩ : ByteArray) = strOfNums [73] := rfl
theorem son_size (x : List Int) : (strOfNums x).size = x.length := by simp [strOfNums, ByteArray.size]
theorem l10Word_l2 (st : List Int) (hst : st.length ≤ 100) (n : Nat) : ∀ (j : Nat) (out : List Int), j + n = st.length → out.length + n ≤ 100 → Ev (fun k => spec_l10Word.l2 k (strOfNums out) st (j : Int)) (strOfNums (out ++ List.replicate n 79)) := by
  induction n with
  | zero =>
    intro j out hj ho
    have c : ¬ (j : Int) < (st.length : Int) := by omega
    rw [List.replicate_zero, List.append_nil]
    exact Ev.step (f := fun _ => some (strOfNums out)) (fun k => by simp only [spec_l10Word.l2, c, ↓reduceIte]) (Ev.now _)
  | succ n ih =>
    intro j out hj ho
    have c : (j : Int) < (st.length : Int) := by omega
    have s : (strOfNums out).size + 1 ≤ 9223372036854775807 := by rw [son_size]; omega
    have e1 := Aside0.mk (show wrap64 ((j : Int) + 1) = ((j + 1 : Nat) : Int) from wj (by omega))
    have h := ih (j + 1) (out ++ [79]) (by omega) (by simp; omega)
    rw [List.append_assoc, show [79] ++ List.replicate n (79 : Int) = List.replicate (n + 1) 79 from by rw [List.replicate_succ]; rfl] at h
    refine Ev.step (fun k => ?_) h
    simp only [spec_l10Word.l2, c, s, e1.out, ↓reduceIte]
    rw [son_append, son_79]
/-- One more is pushed. -/
theorem l10Word_push (l : List Int) (d : Int) (i : Nat) (st out : List Int) (hl : l.length ≤ 7) (hi : i < l.length) (ho : out.length ≤ 100) (hst : st.length ≤ 100) (hd1 : 1 ≤ d)
    (hs : ∀ t x, st = t ++ [x] → ¬ x < rd l (i : Int)) (hd : ¬ (st.length : Int) = d) {r : ByteArray} (h : Ev (fun k => spec_l10Word.l0 k l d (strOfNums (out ++ [73])) (st ++ [rd l (i : Int)]) ((i + 1 : Nat) : Int)) r) : Ev (fun k => spec_l10Word.l1 k l d (strOfNums out) st (i : Int)) r := by
  have ci : (i : Int) < (l.length : Int) := by omega
  have c0i : 0 ≤ (i : Int) := by omega
  have s : (strOfNums out).size + 1 ≤ 9223372036854775807 := by rw [son_size]; omega
  have lim : st.length < 17592186044416 := by omega
  have e1 := Aside0.mk (show wrap64 ((i : Int) + 1) = ((i + 1 : Nat) : Int) from wj (by omega))
  refine Ev.step (fun k => ?_) h
  rw [son_append, ← son_73]
  rcases snoc_cases st with rfl | ⟨st, x, rfl⟩
  · have g0 : ¬ (([] : List Int).length : Int) > 0 := by simp
    simp only [spec_l10Word.l1, g0, ci, c0i, s, lim, e1.out, ↓reduceIte]
  · have hlen : (st ++ [x]).length = st.length + 1 := by simp
    have tp : ((st ++ [x]).length : Int) > 0 := by rw [hlen]; omega
    have et := Aside0.mk (show wrap64 (((st ++ [x]).length : Int) - 1) = (st.length : Int) from by rw [hlen] at hst ⊢; rw [wr (by omega) (by omega)]; omega)
    have etop : rd (st ++ [x]) (st.length : Int) = x := by rw [rd_nat]; simp
    have t0 : 0 ≤ (st.length : Int) := by omega
    have t1 : (st.length : Int) < ((st ++ [x]).length : Int) := by rw [hlen]; omega
    have hx := hs st x rfl
    simp only [spec_l10Word.l1, tp, et.out, t0, t1, etop, ci, c0i, hx, hd, s, lim, e1.out, ↓reduceIte]
/-- One comes out. -/
theorem l10Word_pop (l : List Int) (d : Int) (i : Nat) (st out : List Int) (x : Int) (hl : l.length ≤ 7) (hi : i < l.length) (ho : out.length ≤ 100) (hst : st.length ≤ 100)
    (hx : x < rd l (i : Int) ∨ ((st ++ [x]).length : Int) = d) {r : ByteArray} (h : Ev (fun k => spec_l10Word.l1 k l d (strOfNums (out ++ [79])) st (i : Int)) r) : Ev (fun k => spec_l10Word.l1 k l d (strOfNums out) (st ++ [x]) (i : Int)) r := by
  have ci : (i : Int) < (l.length : Int) := by omega
  have c0i : 0 ≤ (i : Int) := by omega
  have s : (strOfNums out).size + 1 ≤ 9223372036854775807 := by rw [son_size]; omega
  refine Ev.step (fun k => ?_) h
  rw [son_append, ← son_79]
  have hlen : (st ++ [x]).length = st.length + 1 := by simp
  have tp : ((st ++ [x]).length : Int) > 0 := by rw [hlen]; omega
  have et := Aside0.mk (show wrap64 (((st ++ [x]).length : Int) - 1) = (st.length : Int) from by rw [hlen]; rw [wr (by omega) (by omega)]; omega)
  have etop : rd (st ++ [x]) (st.length : Int) = x := by rw [rd_nat]; simp
  have t0 : 0 ≤ (st.length : Int) := by omega
  have t1 : (st.length : Int) < ((st ++ [x]).length : Int) := by rw [hlen]; omega
  have t2 : (st.length : Int) ≤ ((st ++ [x]).length : Int) := by rw [hlen]; omega
  have etake : (st ++ [x]).take ((st.length : Int)).toNat = st := by rw [Int.toNat_natCast]; simp
  by_cases hq : x < rd l (i : Int)
  · simp only [spec_l10Word.l1, tp, et.out, t0, t1, t2, etop, ci, c0i, hq, s, etake, ↓reduceIte]
  · have hd := hx.resolve_left hq
    simp only [spec_l10Word.l1, tp, et.out, t0, t1, t2, etop, ci, c0i, hq, s, etake, ↓reduceIte]
    rw [if_pos hd]
/-- What lies deeper is greater. -/
def Falls (st : List Int) : Prop := st.Pairwise fun a b => b ≤ a
theorem l10Word_main (l : List Int) (d : Int) (hl : l.length ≤ 7) (hd1 : 1 ≤ d) (m : Nat) : ∀ (i : Nat) (st out : List Int), i + m = l.length → Falls st → out.length + st.length + 2 * m ≤ 100 → (st.length : Int) ≤ d →
    Ev (fun k => spec_l10Word.l0 k l d (strOfNums out) st (i : Int)) (strOfNums (lw d (l.drop i) st.reverse out)) := by
  induction m with
  | zero =>
    intro i st out hi hf ho hst
    have c : ¬ (i : Int) < (l.length : Int) := by omega
    have h := l10Word_l2 st (by omega) st.length 0 out (by omega) (by omega)
    rw [List.drop_of_length_le (by omega)]
    unfold lw
    rw [List.length_reverse]
    exact Ev.step (fun k => by simp only [spec_l10Word.l0, c, ↓reduceIte] <;> rfl) h
  | succ m ih =>
    intro i st out hi hf ho hst
    have ci : (i : Int) < (l.length : Int) := by omega
    refine Ev.step (f := fun k => spec_l10Word.l1 k l d (strOfNums out) st (i : Int)) (fun k => by simp only [spec_l10Word.l0, ci, ↓reduceIte]) ?_
    rw [rd_drop l i (by omega)]
    have up : ∀ (st out : List Int), Falls st → out.length + st.length + 2 * m + 2 ≤ 100 → (st.length : Int) < d → (∀ t x, st = t ++ [x] → ¬ x < rd l (i : Int)) → Ev (fun k => spec_l10Word.l1 k l d (strOfNums out) st (i : Int)) (strOfNums (lw d (l.drop (i + 1)) (rd l (i : Int) :: st.reverse) (out ++ [73]))) := by
      intro st out hf ho hst hs
      have h := ih (i + 1) (st ++ [rd l (i : Int)]) (out ++ [73]) (by omega) (by
        refine List.pairwise_append.2 ⟨hf, List.pairwise_singleton _ _, ?_⟩
        intro a ha b hb
        rw [List.mem_singleton] at hb
        subst hb
        rcases snoc_cases st with rfl | ⟨t, x, rfl⟩
        · simp at ha
        · have hx := hs t x rfl
          rcases List.mem_append.1 ha with ha | ha
          · have := (List.pairwise_append.1 hf).2.2 a ha x (by simp)
            omega
          · rw [List.mem_singleton] at ha
            omega) (by simp; omega) (by simp; omega)
      rw [List.reverse_append, List.reverse_singleton, List.singleton_append] at h
      exact l10Word_push l d i st out hl (by omega) (by omega) (by omega) hd1 hs (by omega) h
    have go : ∀ (n : Nat) (st out : List Int), st.length = n → Falls st → out.length + st.length + 2 * m + 2 ≤ 100 → (st.length : Int) ≤ d → Ev (fun k => spec_l10Word.l1 k l d (strOfNums out) st (i : Int)) (strOfNums (lw d (rd l (i : Int) :: l.drop (i + 1)) st.reverse out)) := by
      intro n
      induction n with
      | zero =>
        intro st out hn hf ho hst
        obtain rfl : st = [] := List.length_eq_zero_iff.1 hn
        have := up [] out hf ho (by simp; omega) (by intro t x h; simp at h)
        rw [List.reverse_nil, lw_push d _ _ [] out (by intro x t h; cases h) (by simp; omega)]
        exact this
      | succ n ihn =>
        intro st out hn hf ho hst
        rcases snoc_cases st with rfl | ⟨t, x, rfl⟩
        · simp at hn
        · have hlen : (t ++ [x]).length = t.length + 1 := by simp
          rw [hlen] at hn ho hst
          have hft : Falls t := (List.pairwise_append.1 hf).1
          have er : (t ++ [x]).reverse = x :: t.reverse := by simp
          rw [er]
          by_cases hx : x < rd l (i : Int)
          · rw [lw_pop d _ x _ t.reverse out hx]
            exact l10Word_pop l d i t out x hl (by omega) (by omega) (by omega) (.inl hx) (ihn t (out ++ [79]) (by omega) hft (by simp; omega) (by omega))
          · by_cases hd : ((t.length + 1 : Nat) : Int) = d
            · rw [lw_full d _ x _ t.reverse out hx (by simp only [List.length_cons, List.length_reverse]; exact hd)]
              refine l10Word_pop l d i t out x hl (by omega) (by omega) (by omega) (.inr (by rw [hlen]; exact hd)) ?_
              refine up t (out ++ [79]) hft (by simp; omega) (by omega) ?_
              intro t' y hy
              subst hy
              have := (List.pairwise_append.1 hf).2.2 y (by simp) x (by simp)
              omega
            · have := up (t ++ [x]) out hf (by rw [hlen]; omega) (by rw [hlen]; omega) (by
                intro t' y hy
                have := List.append_inj' hy rfl
                have h2 := this.2
                simp only [List.cons.injEq, and_true] at h2
                omega)
              rw [er] at this
              rw [lw_push d _ _ (x :: t.reverse) out (by intro y u hy; injection hy with a b; rw [← a]; exact hx) (by simp only [List.length_cons, List.length_reverse]; exact hd)]
              exact this
    exact go st.length st out rfl hf (by omega) hst
theorem lw_len (d : Int) (hd : 1 ≤ d) : ∀ (l st out : List Int), (lw d l st out).length = out.length + st.length + 2 * l.length := by
  have hp : ∀ (n : Int) (st : List Int), (lwPop n st).1 + (lwPop n st).2.length = st.length := by
    intro n st
    induction st with
    | nil => rfl
    | cons x t ih =>
      simp only [lwPop]
      split
      · simp only [List.length_cons]; omega
      · simp
  intro l
  induction l with
  | nil => intro st out; simp [lw]
  | cons n rest ih =>
    intro st out
    have := hp n st
    simp only [lw]
    split
    · rename_i h
      rw [ih]
      simp only [List.length_append, List.length_cons, List.length_replicate, List.length_tail, List.length_nil]
      omega
    · rw [ih]
      simp only [List.length_append, List.length_cons, List.length_replicate, List.length_nil]
      omega
theorem ev_l10Word (l : List Int) (d : Int) (hl : l.length ≤ 7) (hd1 : 1 ≤ d) : Ev (fun k => spec_l10Word.f k l d) (strOfNums (lw d l [] [])) := by
  have := l10Word_main l d hl hd1 l.length 0 [] [] (by omega) List.Pairwise.nil (by simp; omega) (by simp; omega)
  exact this
/-! ### a word is run -/
/-- Behind signs: from numbers that are left, the stack (its top first) and what has come out. -/
def runL : List Int → List Int → List Int → List Int → Option (List Int)
  | [], _, _, out => some out
  | c :: t, rest, st, out => if c = 73 then (match rest with | [] => none | x :: r => runL t r (x :: st) out) else (match st with | [] => none | x :: s => runL t rest s (out ++ [x]))
theorem run_both (l : List Int) (w : ByteArray) (hl : l.length ≤ 1000) (hw : w.size ≤ 1048576) (n : Nat) : ∀ (j i : Nat) (st out r : List Int), j + n = w.size → i ≤ l.length → st.length + out.length ≤ i → runL ((bs w).drop j) (l.drop i) st.reverse out = some r →
    Ev (fun k => spec_l2Run.l0 k l w out st (i : Int) (j : Int)) r ∧ Ev (fun k => impl_runWord.l0 k (l.drop i) w st out (w.size : Int) (j : Int)) r := by
  induction n with
  | zero =>
    intro j i st out r hj hi hs h
    rw [bs_end w j (by omega)] at h
    simp only [runL, Option.some.injEq] at h
    subst h
    have c : ¬ (j : Int) < (w.size : Int) := by omega
    exact ⟨Ev.step (f := fun _ => some out) (fun k => by simp only [spec_l2Run.l0, c, ↓reduceIte]) (Ev.now _), Ev.step (f := fun _ => some out) (fun k => by simp only [impl_runWord.l0, c, ↓reduceIte]) (Ev.now _)⟩
  | succ n ih =>
    intro j i st out r hj hi hs h
    rw [bs_drop w j (by omega)] at h
    have c : (j : Int) < (w.size : Int) := by omega
    have c0 : 0 ≤ (j : Int) := by omega
    have ej := Aside0.mk (show wrap64 ((j : Int) + 1) = ((j + 1 : Nat) : Int) from wj (by omega))
    have c0i : 0 ≤ (i : Int) := by omega
    simp only [runL] at h
    by_cases hI : bt w (j : Int) = 73
    · rw [if_pos hI] at h
      by_cases hil : i < l.length
      · have ci : (i : Int) < (l.length : Int) := by omega
        have ei := Aside0.mk (show wrap64 ((i : Int) + 1) = ((i + 1 : Nat) : Int) from wj (by omega))
        rw [rd_drop l i hil] at h
        dsimp only at h
        obtain ⟨h1, h2⟩ := ih (j + 1) (i + 1) (st ++ [rd l (i : Int)]) out r (by omega) (by omega) (by simp; omega) (by rw [List.reverse_append, List.reverse_singleton, List.singleton_append]; exact h)
        have lim : st.length < 17592186044416 := by omega
        have g0 : 0 < ((l.drop i).length : Int) := by rw [List.length_drop]; omega
        have g1 : 1 ≤ ((l.drop i).length : Int) := by omega
        have e0 : rd (l.drop i) 0 = rd l (i : Int) := by rw [rd_drop l i hil]; rfl
        refine ⟨Ev.step (fun k => ?_) h1, Ev.step (fun k => ?_) h2⟩
        · simp only [spec_l2Run.l0, c, c0, hI, ci, c0i, lim, ei.out, ej.out, ↓reduceIte]
        · simp only [impl_runWord.l0, c, c0, hI, g0, g1, lim, e0, ej.out, List.drop_drop, ↓reduceIte]
      · rw [List.drop_of_length_le (by omega)] at h
        cases h
    · rw [if_neg hI] at h
      rcases snoc_cases st with rfl | ⟨st, x, rfl⟩
      · cases h
      · rw [show (st ++ [x]).reverse = x :: st.reverse by simp] at h
        dsimp only at h
        have hlen : (st ++ [x]).length = st.length + 1 := by simp
        rw [hlen] at hs
        obtain ⟨h1, h2⟩ := ih (j + 1) i st (out ++ [x]) r (by omega) hi (by simp; omega) h
        have et := Aside0.mk (show wrap64 (((st ++ [x]).length : Int) - 1) = (st.length : Int) from by rw [hlen, wr (by omega) (by omega)]; omega)
        have etop : rd (st ++ [x]) (st.length : Int) = x := by rw [rd_nat]; simp
        have t0 : 0 ≤ (st.length : Int) := by omega
        have t1 : (st.length : Int) < ((st ++ [x]).length : Int) := by rw [hlen]; omega
        have t2 : (st.length : Int) ≤ ((st ++ [x]).length : Int) := by rw [hlen]; omega
        have etake : (st ++ [x]).take ((st.length : Int)).toNat = st := by rw [Int.toNat_natCast]; simp
        have lim : out.length < 17592186044416 := by omega
        refine ⟨Ev.step (fun k => ?_) h1, Ev.step (fun k => ?_) h2⟩
        · simp only [spec_l2Run.l0, c, c0, hI, et.out, t0, t1, t2, etop, etake, lim, ej.out, ↓reduceIte]
        · simp only [impl_runWord.l0, c, c0, hI, et.out, t0, t1, t2, etop, etake, lim, ej.out, ↓reduceIte]
theorem ev_run (l : List Int) (w : ByteArray) (hl : l.length ≤ 1000) (hw : w.size ≤ 1048576) {r : List Int} (h : runL (bs w) l [] [] = some r) : Ev (fun k => spec_l2Run.f k l w) r ∧ Ev (fun k => impl_runWord.f k l w) r := by
  have := run_both l w hl hw w.size 0 0 [] [] r (by omega) (by omega) (by simp) (by rw [List.drop_zero, List.drop_zero]; exact h)
  rw [List.drop_zero] at this
  exact this
/-! ### a limited sweep, on lists: what comes out -/
def sw (d : Int) : List Int → List Int → List Int → List Int
  | [], st, out => out ++ st
  | n :: rest, st, out => if ((st.drop (lwPop n st).1).length : Int) = d then sw d rest (n :: (st.drop (lwPop n st).1).tail) (out ++ st.take (lwPop n st).1 ++ (st.drop (lwPop n st).1).take 1) else sw d rest (n :: st.drop (lwPop n st).1) (out ++ st.take (lwPop n st).1)
theorem lwPop_drop (n : Int) : ∀ st, (lwPop n st).2 = st.drop (lwPop n st).1 ∧ (lwPop n st).1 ≤ st.length
  | [] => ⟨rfl, Nat.le_refl _⟩
  | x :: t => by
    have ih := lwPop_drop n t
    simp only [lwPop]
    split
    · exact ⟨by simpa using ih.1, by simpa using ih.2⟩
    · exact ⟨rfl, by simp⟩
theorem lw_out (d : Int) : ∀ (l st out : List Int), lw d l st out = out ++ lw d l st []
  | [], st, out => by simp [lw]
  | n :: rest, st, out => by
    simp only [lw]
    split
    · rw [lw_out d rest _ (out ++ _ ++ _ ++ _), lw_out d rest _ ([] ++ _ ++ _ ++ _)]; simp
    · rw [lw_out d rest _ (out ++ _ ++ _), lw_out d rest _ ([] ++ _ ++ _)]; simp
theorem runL_pops (m : Nat) : ∀ (t rest st out : List Int), m ≤ st.length → runL (List.replicate m 79 ++ t) rest st out = runL t rest (st.drop m) (out ++ st.take m) := by
  induction m with
  | zero => intro t rest st out h; simp
  | succ m ih =>
    intro t rest st out h
    cases st with
    | nil => simp at h
    | cons x s =>
      rw [List.replicate_succ, List.cons_append]
      simp only [runL]
      rw [if_neg (by decide), ih t rest s _ (by simpa using h)]
      simp
theorem run_lw (d : Int) (hd : 1 ≤ d) : ∀ (l st o : List Int), runL (lw d l st []) l st o = some (sw d l st o)
  | [], st, o => by
    have h := runL_pops st.length [] [] st o (Nat.le_refl _)
    rw [List.append_nil] at h
    simp only [lw, sw, List.nil_append]
    rw [h]
    simp [runL]
  | n :: rest, st, o => by
    obtain ⟨e, hle⟩ := lwPop_drop n st
    have ih := run_lw d hd rest
    simp only [lw, sw, e]
    split
    · rename_i h
      rw [lw_out, List.nil_append, List.append_assoc, List.append_assoc, runL_pops _ _ _ _ _ hle]
      cases hs : st.drop (lwPop n st).1 with
      | nil => rw [hs] at h; simp at h; omega
      | cons x s =>
        simp only [List.singleton_append, runL]
        simp only [show ¬ (79 : Int) = 73 by decide, List.tail_cons, ↓reduceIte]
        rw [ih]
        simp
    · rw [lw_out, List.nil_append, List.append_assoc, runL_pops _ _ _ _ _ hle]
      simp only [List.singleton_append, runL, ↓reduceIte]
      rw [ih]
theorem sw_perm (d : Int) : ∀ (l st o : List Int), (sw d l st o).Perm (o ++ st ++ l)
  | [], st, o => by simp [sw]
  | n :: rest, st, o => by
    have hsplit : ∀ m, st.take m ++ st.drop m = st := fun m => List.take_append_drop m st
    simp only [sw]
    split
    · refine (sw_perm d rest _ _).trans ?_
      generalize (lwPop n st).1 = m
      have e : (st.drop m).take 1 ++ (st.drop m).tail = st.drop m := by cases st.drop m <;> simp
      have : o ++ st ++ n :: rest = o ++ (st.take m ++ ((st.drop m).take 1 ++ (st.drop m).tail)) ++ n :: rest := by rw [e, hsplit]
      rw [this]
      simp only [List.append_assoc, List.cons_append]
      refine List.Perm.append_left o (List.Perm.append_left _ (List.Perm.append_left _ ?_))
      exact (List.perm_middle).symm
    · refine (sw_perm d rest _ _).trans ?_
      generalize (lwPop n st).1 = m
      have : o ++ st ++ n :: rest = o ++ (st.take m ++ st.drop m) ++ n :: rest := by rw [hsplit]
      rw [this]
      simp only [List.append_assoc, List.cons_append]
      refine List.Perm.append_left o (List.Perm.append_left _ ?_)
      exact (List.perm_middle).symm
theorem sw_len (d : Int) (l : List Int) : (sw d l [] []).length = l.length := by
  have := (sw_perm d l [] []).length_eq
  simpa using this
theorem lw_byte (d : Int) : ∀ (l st out : List Int), (∀ c ∈ out, c = 73 ∨ c = 79) → ∀ c ∈ lw d l st out, c = 73 ∨ c = 79
  | [], st, out, h => by
    intro c hc
    simp only [lw, List.mem_append, List.mem_replicate] at hc
    rcases hc with hc | hc
    · exact h c hc
    · exact .inr hc.2
  | n :: rest, st, out, h => by
    simp only [lw]
    split
    · refine lw_byte d rest _ _ ?_
      intro c hc
      simp only [List.mem_append, List.mem_replicate, List.mem_singleton] at hc
      rcases hc with ((hc | hc) | hc) | hc
      · exact h c hc
      · exact .inr hc.2
      · exact .inr hc
      · exact .inl hc
    · refine lw_byte d rest _ _ ?_
      intro c hc
      simp only [List.mem_append, List.mem_replicate, List.mem_singleton] at hc
      rcases hc with (hc | hc) | hc
      · exact h c hc
      · exact .inr hc.2
      · exact .inl hc
theorem bs_son (x : List Int) (h : ∀ c ∈ x, c = 73 ∨ c = 79) : bs (strOfNums x) = x := by
  unfold bs strOfNums
  simp only [List.map_map]
  refine (List.map_congr_left ?_).trans (List.map_id x)
  intro c hc
  rcases h c hc with rfl | rfl <;> rfl
theorem ev_sweep (l : List Int) (d : Int) (hl : l.length ≤ 7) (hd1 : 1 ≤ d) : Ev (fun k => spec_l10Sweep.f k l d) (sw d l [] []) ∧ Ev (fun k => impl_limitedSweep.f k l d) (sw d l [] []) := by
  have hb : bs (strOfNums (lw d l [] [])) = lw d l [] [] := bs_son _ (lw_byte d l [] [] (by intro c hc; cases hc))
  have hr := run_lw d hd1 l [] []
  rw [← hb] at hr
  have hsz : (strOfNums (lw d l [] [])).size ≤ 1048576 := by rw [son_size, lw_len d hd1]; simp; omega
  obtain ⟨r1, r2⟩ := ev_run l _ (by omega) hsz hr
  unfold spec_l10Sweep.f impl_limitedSweep.f
  refine ⟨Ev.bind (ev_l10Word l d hl hd1) (Ev.bind r1 (Ev.now _)), ?_⟩
  have c : 1 ≤ d ∧ l.length ≤ 1000 := ⟨hd1, by omega⟩
  simp only [impl_limitedWord.f, if_pos c, Option.bind_some]
  exact Ev.bind r2 (Ev.now _)
/-! ### sorted orders -/
theorem iota_get (n i : Nat) (h : i < n) : rd (iota 1 n) (i : Int) = 1 + (i : Int) := rd_iota 1 n i h
theorem ev_l2Sorted (n : Nat) (hn : n ≤ 1000) : Ev (fun k => spec_l2Sorted.f k (n : Int)) (iota 1 n) := by
  have go : ∀ (m j : Nat), j + m = n → Ev (fun k => spec_l2Sorted.l0 k (n : Int) (iota 1 j) (1 + (j : Int))) (iota 1 n) := by
    intro m
    induction m with
    | zero =>
      intro j hj
      have c : ¬ 1 + (j : Int) ≤ (n : Int) := by omega
      obtain rfl : j = n := by omega
      exact Ev.step (f := fun _ => some (iota 1 j)) (fun k => by simp only [spec_l2Sorted.l0, c, ↓reduceIte]) (Ev.now _)
    | succ m ih =>
      intro j hj
      have c : 1 + (j : Int) ≤ (n : Int) := by omega
      have lim : (iota 1 j).length < 17592186044416 := by rw [iota_length]; omega
      have e := Aside0.mk (show wrap64 (1 + (j : Int) + 1) = 1 + ((j + 1 : Nat) : Int) from by rw [wr (by omega) (by omega)]; omega)
      refine Ev.step (fun k => ?_) (ih (j + 1) (by omega))
      simp only [spec_l2Sorted.l0, c, lim, e.out, ↓reduceIte]
      rw [iota_succ]
  have := go n 0 (by omega)
  exact this
theorem ev_l1Same (a b : List Int) (ha : a.length ≤ 1000) : Ev (fun k => spec_l1Same.f k a b) (decide (a = b)) := by
  unfold spec_l1Same.f
  by_cases hl : a.length = b.length
  · have c : (a.length : Int) = (b.length : Int) := by omega
    simp only [c, ↓reduceIte]
    have go : ∀ (m j : Nat), j + m = a.length → Ev (fun k => spec_l1Same.l0 k a b (j : Int)) (decide (a.drop j = b.drop j)) := by
      intro m
      induction m with
      | zero =>
        intro j hj
        have c : ¬ (j : Int) < (a.length : Int) := by omega
        rw [List.drop_of_length_le (by omega), List.drop_of_length_le (by omega)]
        exact Ev.step (f := fun _ => some true) (fun k => by simp only [spec_l1Same.l0, c, ↓reduceIte]) (by simpa using Ev.now true)
      | succ m ih =>
        intro j hj
        have c : (j : Int) < (a.length : Int) := by omega
        have c0 : 0 ≤ (j : Int) := by omega
        have c1 : (j : Int) < (b.length : Int) := by omega
        have e := Aside0.mk (show wrap64 ((j : Int) + 1) = ((j + 1 : Nat) : Int) from wj (by omega))
        rw [rd_drop a j (by omega), rd_drop b j (by omega)]
        by_cases h : rd a (j : Int) = rd b (j : Int)
        · have hd : decide (rd a (j : Int) :: a.drop (j + 1) = rd b (j : Int) :: b.drop (j + 1)) = decide (a.drop (j + 1) = b.drop (j + 1)) := by simp [h]
          rw [hd]
          refine Ev.step (fun k => ?_) (ih (j + 1) (by omega))
          simp only [spec_l1Same.l0, c, c0, c1, e.out, ↓reduceIte]
          rw [if_pos h]
        · have hd : decide (rd a (j : Int) :: a.drop (j + 1) = rd b (j : Int) :: b.drop (j + 1)) = false := by simp [h]
          rw [hd]
          exact Ev.step (f := fun _ => some false) (fun k => by simp only [spec_l1Same.l0, c, c0, c1, h, ↓reduceIte]) (Ev.now _)
    have := go a.length 0 (by omega)
    exact this
  · have c : ¬ (a.length : Int) = (b.length : Int) := by omega
    simp only [c, ↓reduceIte]
    have : decide (a = b) = false := decide_eq_false (fun h => hl (by rw [h]))
    rw [this]
    exact Ev.now _
theorem ev_IsSorted (l : List Int) (hl : l.length ≤ 1000) (h1 : 1 ≤ l.length) : Ev (fun k => slices_IsSorted_int_int.f k l) (decide (∀ i : Nat, i < l.length - 1 → rd l (i : Int) ≤ rd l ((i + 1 : Nat) : Int))) := by
  have go : ∀ (m : Nat), m < l.length → Ev (fun k => slices_IsSorted_int_int.l0 k l (m : Int)) (decide (∀ i : Nat, i < m → rd l (i : Int) ≤ rd l ((i + 1 : Nat) : Int))) := by
    intro m
    induction m with
    | zero =>
      intro hm
      have c : ¬ ((0 : Nat) : Int) > 0 := by omega
      have hd : decide (∀ i : Nat, i < 0 → rd l (i : Int) ≤ rd l ((i + 1 : Nat) : Int)) = true := decide_eq_true (fun i hi => absurd hi (Nat.not_lt_zero i))
      rw [hd]
      exact Ev.step (f := fun _ => some true) (fun k => by simp only [slices_IsSorted_int_int.l0, c, ↓reduceIte]) (Ev.now _)
    | succ m ih =>
      intro hm
      have c : ((m + 1 : Nat) : Int) > 0 := by omega
      have c0 : 0 ≤ ((m + 1 : Nat) : Int) := by omega
      have c1 : ((m + 1 : Nat) : Int) < (l.length : Int) := by omega
      have e := Aside0.mk (show wrap64 (((m + 1 : Nat) : Int) - 1) = (m : Int) from by rw [wr (by omega) (by omega)]; omega)
      have d0 : 0 ≤ (m : Int) := by omega
      have d1 : (m : Int) < (l.length : Int) := by omega
      by_cases h : rd l ((m + 1 : Nat) : Int) < rd l (m : Int)
      · have hd : decide (∀ i : Nat, i < m + 1 → rd l (i : Int) ≤ rd l ((i + 1 : Nat) : Int)) = false := decide_eq_false (fun g => by have := g m (by omega); omega)
        rw [hd]
        refine Ev.step (f := fun _ => some false) (fun k => ?_) (Ev.now _)
        simp only [slices_IsSorted_int_int.l0, cmp_Less_int.f, cmp_isNaN_int.f, bne_self_eq_false, Option.bind_some, c, c0, c1, e.out, d0, d1, Bool.false_eq_true, ↓reduceIte]
        rw [if_pos (decide_eq_true h)]
      · have hd : decide (∀ i : Nat, i < m + 1 → rd l (i : Int) ≤ rd l ((i + 1 : Nat) : Int)) = decide (∀ i : Nat, i < m → rd l (i : Int) ≤ rd l ((i + 1 : Nat) : Int)) := by
          refine decide_eq_decide.2 ⟨fun g i hi => g i (by omega), fun g i hi => ?_⟩
          by_cases hm : i = m
          · subst hm; omega
          · exact g i (by omega)
        rw [hd]
        refine Ev.step (fun k => ?_) (ih (by omega))
        simp only [slices_IsSorted_int_int.l0, cmp_Less_int.f, cmp_isNaN_int.f, bne_self_eq_false, Option.bind_some, c, c0, c1, e.out, d0, d1, Bool.false_eq_true, ↓reduceIte]
        rw [if_neg (by simpa using h)]
  have e := Aside0.mk (show wrap64 ((l.length : Int) - 1) = ((l.length - 1 : Nat) : Int) from by rw [wr (by omega) (by omega)]; omega)
  unfold slices_IsSorted_int_int.f
  rw [e.out]
  exact go (l.length - 1) (by omega)
/-- Numbers from 1 to n, each once. -/
def OrdP (l : List Int) : Prop := l.Nodup ∧ ∀ x ∈ l, 1 ≤ x ∧ x ≤ (l.length : Int)
theorem ordB_P {l : List Int} (h : ordB l = true) : OrdP l := ⟨ordB_nodup h, ordB_range h⟩
theorem OrdP.perm {l m : List Int} (h : OrdP l) (p : m.Perm l) : OrdP m := ⟨p.symm.nodup h.1, fun x hx => by rw [p.length_eq]; exact h.2 x (p.mem_iff.1 hx)⟩
theorem rd_mem (l : List Int) (i : Nat) (h : i < l.length) : rd l (i : Int) ∈ l := by
  rw [rd_get l i h]
  exact List.getElem_mem h
theorem ordP_iota {l : List Int} (h : OrdP l) (adj : ∀ i : Nat, i < l.length - 1 → rd l (i : Int) ≤ rd l ((i + 1 : Nat) : Int)) : l = iota 1 l.length := by
  have adj' : ∀ i : Nat, i + 1 < l.length → rd l (i : Int) < rd l ((i + 1 : Nat) : Int) := by
    intro i hi
    have h1 := adj i (by omega)
    have h2 : rd l (i : Int) ≠ rd l ((i + 1 : Nat) : Int) := by
      rw [rd_get l i (by omega), rd_get l (i + 1) hi]
      exact (List.pairwise_iff_getElem.1 h.1) i (i + 1) (by omega) hi (by omega)
    omega
  have up : ∀ i : Nat, i < l.length → 1 + (i : Int) ≤ rd l (i : Int) := by
    intro i
    induction i with
    | zero =>
      intro hi
      have := (h.2 _ (rd_mem l 0 hi)).1
      simpa using this
    | succ i ih =>
      intro hi
      have := ih (by omega)
      have := adj' i hi
      omega
  have down : ∀ m : Nat, m < l.length → rd l ((l.length - 1 - m : Nat) : Int) ≤ (l.length : Int) - m := by
    intro m
    induction m with
    | zero =>
      intro hm
      have := (h.2 _ (rd_mem l (l.length - 1 - 0) (by omega))).2
      simpa using this
    | succ m ih =>
      intro hm
      have a := ih (by omega)
      have b := adj' (l.length - 1 - (m + 1)) (by omega)
      rw [show l.length - 1 - (m + 1) + 1 = l.length - 1 - m by omega] at b
      omega
  refine List.ext_getElem (by rw [iota_length]) ?_
  intro i h1 h2
  have a := up i h1
  have b := down (l.length - 1 - i) (by omega)
  rw [show l.length - 1 - (l.length - 1 - i) = i by omega] at b
  have e : rd (iota 1 l.length) (i : Int) = 1 + (i : Int) := rd_iota 1 l.length i h1
  rw [rd_get l i h1] at a b
  rw [rd_get _ i h2] at e
  rw [e]
  omega
theorem asc_iota {l : List Int} (h : OrdP l) (p : l.Pairwise (· < ·)) : l = iota 1 l.length := by
  refine ordP_iota h ?_
  intro i hi
  rw [rd_get l i (by omega), rd_get l (i + 1) (by omega)]
  exact Int.le_of_lt ((List.pairwise_iff_getElem.1 p) i (i + 1) (by omega) (by omega) (by omega))
theorem sorted_adj {l : List Int} (h : OrdP l) : decide (∀ i : Nat, i < l.length - 1 → rd l (i : Int) ≤ rd l ((i + 1 : Nat) : Int)) = decide (l = iota 1 l.length) := by
  refine decide_eq_decide.2 ⟨ordP_iota h, fun e i hi => ?_⟩
  rw [e, rd_iota 1 l.length i (by omega), rd_iota 1 l.length (i + 1) (by omega)]
  omega
/-! ### copies of lists, lists compared -/
theorem ev_toIntS_l0 (l : List Int) (hl : l.length ≤ 1048576) (d : Nat) : ∀ j : Nat, j + d = l.length → Ev (fun k => laws_toIntS.l0 k l (l.take j ++ List.replicate (l.length - j) 0) (j : Int)) l := by
  induction d with
  | zero =>
    intro j hj
    have c : ¬ (j : Int) < (l.length : Int) := by omega
    have e : l.take j ++ List.replicate (l.length - j) 0 = l := by rw [List.take_of_length_le (by omega), show l.length - j = 0 by omega]; simp
    rw [e]
    exact Ev.step (fun k => by simp only [laws_toIntS.l0, c, ↓reduceIte] <;> rfl) (Ev.now _)
  | succ d ih =>
    intro j hj
    have c : (j : Int) < (l.length : Int) := by omega
    have c0 : 0 ≤ (j : Int) := by omega
    have c1 : (j : Int) < (((l.take j ++ List.replicate (l.length - j) 0).length : Nat) : Int) := by simp; omega
    have e1 : wrap64 ((j : Int) + 1) = ((j + 1 : Nat) : Int) := wj (by omega)
    exact Ev.step (fun k => by simp only [laws_toIntS.l0, c, c0, c1, ↓reduceIte]; rw [e1, Int.toNat_natCast, set_copy l j (by omega)]) (ih (j + 1) (by omega))
theorem ev_toIntS (l : List Int) (hl : l.length ≤ 1048576) : Ev (fun k => laws_toIntS.f k l) l := by
  have c0 : 0 ≤ (l.length : Int) := by omega
  have c1 : l.length ≤ 35184372088832 := by omega
  have := ev_toIntS_l0 l hl l.length 0 (by omega)
  simp only [List.take_zero, List.nil_append, Nat.sub_zero] at this
  simp only [laws_toIntS.f, c0, c1, Int.toNat_natCast, ↓reduceIte]
  exact this
theorem ev_eqIntS_l0 (l : List Int) (hl : l.length < 9223372036854775807) (d : Nat) : ∀ j : Nat, j + d = l.length → Ev (fun k => laws_eqIntS.l0 k l l (j : Int)) true := by
  induction d with
  | zero =>
    intro j hj
    have c : ¬ (j : Int) < (l.length : Int) := by omega
    exact Ev.step (fun k => by simp only [laws_eqIntS.l0, c, ↓reduceIte] <;> rfl) (Ev.now _)
  | succ d ih =>
    intro j hj
    have c : (j : Int) < (l.length : Int) := by omega
    have c0 : 0 ≤ (j : Int) := by omega
    have e1 : wrap64 ((j : Int) + 1) = ((j + 1 : Nat) : Int) := wj (by omega)
    exact Ev.step (fun k => by simp only [laws_eqIntS.l0, c, c0, e1, ↓reduceIte] <;> rfl) (ih (j + 1) (by omega))
/-- A list is equal to itself. -/
theorem ev_eqIntS (l : List Int) (hl : l.length < 9223372036854775807) : Ev (fun k => laws_eqIntS.f k l l) true := by
  simp only [laws_eqIntS.f, ↓reduceIte]
  exact ev_eqIntS_l0 l hl l.length 0 (by omega)
theorem ev_isSorted (l : List Int) (hl : l.length ≤ 7) (h1 : 1 ≤ l.length) (h : OrdP l) : Ev (fun k => impl_isSorted.f k l) (decide (l = iota 1 l.length)) := by
  unfold impl_isSorted.f
  rw [← sorted_adj h]
  exact Ev.bind (ev_IsSorted l (by omega) h1) (Ev.now _)
/-! ### a sweep sorts one more number at the end -/
theorem lwPop_all (m : Int) : ∀ (st : List Int), (∀ x ∈ st, x < m) → (lwPop m st).1 = st.length
  | [], _ => rfl
  | x :: t, h => by
    simp only [lwPop]
    rw [if_pos (h x (by simp))]
    dsimp only
    rw [lwPop_all m t (fun y hy => h y (by simp [hy]))]
    rfl
theorem lwPop_keep (n m : Int) (hm : ¬ m < n) : ∀ (s : List Int), (lwPop n (s ++ [m])).1 = (lwPop n s).1
  | [] => by simp [lwPop, hm]
  | x :: t => by
    simp only [List.cons_append, lwPop]
    split
    · dsimp only
      rw [lwPop_keep n m hm t]
    · rfl
theorem sw_up (d : Int) (hd : 2 ≤ d) : ∀ (b : List Int) (x : Int) (o : List Int), (x :: b).Pairwise (· < ·) → sw d b [x] o = o ++ x :: b
  | [], x, o, _ => rfl
  | b0 :: b, x, o, h => by
    have hx : x < b0 := (List.pairwise_cons.1 h).1 b0 (by simp)
    have e := lwPop_all b0 [x] (by intro y hy; rw [List.mem_singleton] at hy; omega)
    simp only [sw, e]
    rw [if_neg (by simp; omega)]
    have := sw_up d hd b b0 (o ++ [x]) (List.pairwise_cons.1 h).2
    simpa using this
theorem sw_low (d : Int) (hd : 2 ≤ d) (m : Int) (b : List Int) (hb : (m :: b).Pairwise (· < ·)) : ∀ (q s o : List Int), (∀ x ∈ q, x < m) → (∀ x ∈ s, x < m) → ∃ a', sw d (q ++ b) (s ++ [m]) o = a' ++ m :: b
  | [], s, o, _, hs => by
    cases b with
    | nil => exact ⟨o ++ s, by simp [sw]⟩
    | cons b0 b =>
      have hm : m < b0 := (List.pairwise_cons.1 hb).1 b0 (by simp)
      have e := lwPop_all b0 (s ++ [m]) (by
        intro y hy
        rcases List.mem_append.1 hy with hy | hy
        · have := hs y hy; omega
        · rw [List.mem_singleton] at hy; omega)
      refine ⟨o ++ s, ?_⟩
      simp only [List.nil_append, sw, e, List.drop_length, List.take_length]
      rw [if_neg (by simp; omega), sw_up d hd b b0 _ (List.pairwise_cons.1 hb).2]
      simp
  | n :: q, s, o, hq, hs => by
    have hn : n < m := hq n (by simp)
    have e := lwPop_keep n m (by omega) s
    have hle := (lwPop_drop n s).2
    have hq' : ∀ x ∈ q, x < m := fun x hx => hq x (by simp [hx])
    simp only [List.cons_append, sw, e]
    generalize (lwPop n s).1 = k at hle
    rw [List.drop_append_of_le_length hle]
    have hs' : ∀ x ∈ s.drop k, x < m := fun x hx => hs x (List.mem_of_mem_drop hx)
    split
    · rename_i hfull
      cases hsd : s.drop k with
      | nil => rw [hsd] at hfull; simp at hfull; omega
      | cons y t =>
        rw [hsd] at hs'
        simp only [List.cons_append, List.tail_cons]
        have := sw_low d hd m b hb q (n :: t) (o ++ (s ++ [m]).take k ++ (y :: (t ++ [m])).take 1) hq' (by
          intro x hx
          rcases List.mem_cons.1 hx with rfl | hx
          · exact hn
          · exact hs' x (by simp [hx]))
        simpa using this
    · have := sw_low d hd m b hb q (n :: s.drop k) (o ++ (s ++ [m]).take k) hq' (by
        intro x hx
        rcases List.mem_cons.1 hx with rfl | hx
        · exact hn
        · exact hs' x hx)
      simpa using this
theorem sw_first (d : Int) (hd : 2 ≤ d) (m : Int) (t : List Int) : ∀ (p st o : List Int), (∀ x ∈ p, x < m) → (∀ x ∈ st, x < m) → ∃ o', sw d (p ++ m :: t) st o = sw d t [m] o'
  | [], st, o, _, hs => by
    have e := lwPop_all m st hs
    refine ⟨o ++ st, ?_⟩
    simp only [List.nil_append, sw, e, List.drop_length, List.take_length]
    rw [if_neg (by simp; omega)]
  | n :: p, st, o, hp, hs => by
    have hp' : ∀ x ∈ p, x < m := fun x hx => hp x (by simp [hx])
    simp only [List.cons_append, sw]
    generalize (lwPop n st).1 = k
    split
    · refine sw_first d hd m t p _ _ hp' ?_
      intro x hx
      rcases List.mem_cons.1 hx with rfl | hx
      · exact hp x (by simp)
      · exact hs x (List.mem_of_mem_drop (List.mem_of_mem_tail hx))
    · refine sw_first d hd m t p _ _ hp' ?_
      intro x hx
      rcases List.mem_cons.1 hx with rfl | hx
      · exact hp x (by simp)
      · exact hs x (List.mem_of_mem_drop hx)
theorem has_max : ∀ (a : List Int), a ≠ [] → a.Nodup → ∃ p m q, a = p ++ m :: q ∧ (∀ x ∈ p, x < m) ∧ ∀ x ∈ q, x < m
  | [], h, _ => absurd rfl h
  | [x], _, _ => ⟨[], x, [], rfl, by simp, by simp⟩
  | x :: y :: t, _, hn => by
    obtain ⟨p, m, q, e, hp, hq⟩ := has_max (y :: t) (by simp) (List.nodup_cons.1 hn).2
    by_cases hx : x < m
    · refine ⟨x :: p, m, q, by rw [e]; rfl, ?_, hq⟩
      intro z hz
      rcases List.mem_cons.1 hz with rfl | hz
      · exact hx
      · exact hp z hz
    · have hm : x ≠ m := by
        rintro rfl
        exact (List.nodup_cons.1 hn).1 (by rw [e]; simp)
      refine ⟨[], x, y :: t, rfl, by simp, ?_⟩
      intro z hz
      rw [e] at hz
      rcases List.mem_append.1 hz with hz | hz
      · have := hp z hz; omega
      · rcases List.mem_cons.1 hz with rfl | hz
        · omega
        · have := hq z hz; omega
theorem sw_step (d : Int) (hd : 2 ≤ d) (a b : List Int) (ha : a ≠ []) (hn : (a ++ b).Nodup) (hb : b.Pairwise (· < ·)) (hab : ∀ x ∈ a, ∀ y ∈ b, x < y) :
    ∃ a' m, sw d (a ++ b) [] [] = a' ++ m :: b ∧ a'.length + 1 = a.length ∧ (m :: b).Pairwise (· < ·) ∧ ∀ x ∈ a', ∀ y ∈ m :: b, x < y := by
  obtain ⟨p, m, q, e, hp, hq⟩ := has_max a ha (List.nodup_append.1 hn).1
  have hmb : (m :: b).Pairwise (· < ·) := List.pairwise_cons.2 ⟨fun y hy => hab m (by rw [e]; simp) y hy, hb⟩
  obtain ⟨o', h1⟩ := sw_first d hd m (q ++ b) p [] [] hp (by simp)
  obtain ⟨a', h2⟩ := sw_low d hd m b hmb q [] o' hq (by simp)
  have hs : sw d (a ++ b) [] [] = a' ++ m :: b := by
    rw [e, List.append_assoc, List.cons_append, h1]
    exact h2
  have hperm := sw_perm d (a ++ b) [] []
  rw [hs, List.nil_append, List.nil_append] at hperm
  have hlen := hperm.length_eq
  simp only [List.length_append, List.length_cons] at hlen
  have hnd : (a' ++ m :: b).Nodup := hperm.symm.nodup hn
  refine ⟨a', m, hs, by omega, hmb, ?_⟩
  have key : ∀ x ∈ a', x < m := by
    intro x hx
    have hx' : x ∈ a ++ b := hperm.mem_iff.1 (by simp [hx])
    have hne := (List.nodup_append.1 hnd).2.2 x hx
    rcases List.mem_append.1 hx' with hxa | hxb
    · rw [e] at hxa
      rcases List.mem_append.1 hxa with h | h
      · exact hp x h
      · rcases List.mem_cons.1 h with rfl | h
        · exact absurd rfl (hne x (by simp))
        · exact hq x h
    · exact absurd rfl (hne x (by simp [hxb]))
  intro x hx y hy
  rcases List.mem_cons.1 hy with rfl | hy
  · exact key x hx
  · have := key x hx
    have := (List.pairwise_cons.1 hmb).1 y hy
    omega
theorem count_loops (l : List Int) (d : Int) (hd : 2 ≤ d) (h1 : 1 ≤ l.length) (h7 : l.length ≤ 7) (n : Nat) : ∀ (a b : List Int) (c : Nat), a.length = n → (a ++ b).length = l.length → OrdP (a ++ b) → b.Pairwise (· < ·) → (∀ x ∈ a, ∀ y ∈ b, x < y) → c + n ≤ 7 →
    ∃ r : Int, Ev (fun k => spec_CountLimitedSweeps.l0 k l d (c : Int) (a ++ b)) (r, true) ∧ Ev (fun k => impl_CountLimitedSweeps.l0 k d (c : Int) (a ++ b)) (r, true) := by
  induction n with
  | zero =>
    intro a b c ha hlen ho hb hab hc
    obtain rfl : a = [] := List.length_eq_zero_iff.1 ha
    rw [List.nil_append] at ho hlen ⊢
    have es := asc_iota ho hb
    refine ⟨c, ?_, ?_⟩
    · refine Ev.step (f := fun k => (spec_l2Sorted.f k (l.length : Int)).bind fun t405 => ((spec_l1Same.f k b t405).bind fun t408 => (if t408 = true then some ((c : Int), true) else (if d = 1 then (some (0, false)) else ((spec_l10Sweep.f k b d).bind fun t409 => (spec_CountLimitedSweeps.l0 k l d (wrap64 ((c : Int) + 1)) t409)))))) (fun k => by simp only [spec_CountLimitedSweeps.l0]) ?_
      refine Ev.bind (ev_l2Sorted l.length (by omega)) (Ev.bind (ev_l1Same b _ (by omega)) ?_)
      rw [← hlen, decide_eq_true es]
      simp only [↓reduceIte]
      exact Ev.now _
    · refine Ev.step (f := fun k => (impl_isSorted.f k b).bind fun t421 => (if t421 = true then (some ((c : Int), true)) else ((impl_limitedSweep.f k b d).bind fun t422 => (impl_CountLimitedSweeps.l0 k d (wrap64 ((c : Int) + 1)) t422)))) (fun k => by simp only [impl_CountLimitedSweeps.l0]) ?_
      refine Ev.bind (ev_isSorted b (by omega) (by omega) ho) ?_
      rw [decide_eq_true es]
      simp only [↓reduceIte]
      exact Ev.now _
  | succ n ih =>
    intro a b c ha hlen ho hb hab hc
    have key : ∃ r : Int, ((a ++ b) = iota 1 (a ++ b).length → r = c) ∧ (¬ (a ++ b) = iota 1 (a ++ b).length → Ev (fun k => spec_CountLimitedSweeps.l0 k l d ((c + 1 : Nat) : Int) (sw d (a ++ b) [] [])) (r, true) ∧ Ev (fun k => impl_CountLimitedSweeps.l0 k d ((c + 1 : Nat) : Int) (sw d (a ++ b) [] [])) (r, true)) := by
      by_cases es : (a ++ b) = iota 1 (a ++ b).length
      · exact ⟨c, fun _ => rfl, fun h => absurd es h⟩
      · obtain ⟨a', m, hs, hl', hmb, hlt⟩ := sw_step d hd a b (by intro h; rw [h] at ha; simp at ha) ho.1 hb hab
        have hp := sw_perm d (a ++ b) [] []
        rw [hs, List.nil_append, List.nil_append] at hp
        obtain ⟨r, s1, s2⟩ := ih a' (m :: b) (c + 1) (by omega) (by rw [hp.length_eq]; exact hlen) (ho.perm hp) hmb hlt (by omega)
        exact ⟨r, fun h => absurd h es, fun _ => by rw [hs]; exact ⟨s1, s2⟩⟩
    obtain ⟨r, hr, hnr⟩ := key
    have ec := Aside0.mk (show wrap64 ((c : Int) + 1) = ((c + 1 : Nat) : Int) from wj (by omega))
    obtain ⟨w1, w2⟩ := ev_sweep (a ++ b) d (by omega) (by omega)
    have d1 : ¬ d = 1 := by omega
    refine ⟨r, ?_, ?_⟩
    · refine Ev.step (f := fun k => (spec_l2Sorted.f k (l.length : Int)).bind fun t405 => ((spec_l1Same.f k (a ++ b) t405).bind fun t408 => (if t408 = true then some ((c : Int), true) else ((spec_l10Sweep.f k (a ++ b) d).bind fun t409 => (spec_CountLimitedSweeps.l0 k l d ((c + 1 : Nat) : Int) t409))))) (fun k => by simp only [spec_CountLimitedSweeps.l0, d1, ec.out, ↓reduceIte]) ?_
      refine Ev.bind (ev_l2Sorted l.length (by omega)) (Ev.bind (ev_l1Same (a ++ b) _ (by omega)) ?_)
      rw [← hlen]
      by_cases es : (a ++ b) = iota 1 (a ++ b).length
      · rw [decide_eq_true es, hr es]
        simp only [↓reduceIte]
        exact Ev.now _
      · rw [decide_eq_false es]
        simp only [Bool.false_eq_true, ↓reduceIte]
        exact Ev.bind w1 (hnr es).1
    · refine Ev.step (f := fun k => (impl_isSorted.f k (a ++ b)).bind fun t421 => (if t421 = true then (some ((c : Int), true)) else ((impl_limitedSweep.f k (a ++ b) d).bind fun t422 => (impl_CountLimitedSweeps.l0 k d ((c + 1 : Nat) : Int) t422)))) (fun k => by simp only [impl_CountLimitedSweeps.l0, ec.out]) ?_
      refine Ev.bind (ev_isSorted (a ++ b) (by omega) (by omega) ho) ?_
      by_cases es : (a ++ b) = iota 1 (a ++ b).length
      · rw [decide_eq_true es, hr es]
        simp only [↓reduceIte]
        exact Ev.now _
      · rw [decide_eq_false es]
        simp only [Bool.false_eq_true, ↓reduceIte]
        exact Ev.bind w2 (hnr es).2
theorem ev_l1Own (l : List Int) (h : l.length ≤ 7) : spec_l1Own.f l = some l := by
  unfold spec_l1Own.f
  have c : ([] : List Int).length + l.length < 17592186044416 := by simp; omega
  simp only [Option.bind_some]
  rw [if_pos c, List.nil_append]
theorem both_CountLimitedSweeps (l : List Int) (d : Int) : ∃ r, Ev (fun k => spec_CountLimitedSweeps.f k l d) r ∧ Ev (fun k => impl_CountLimitedSweeps.f k l d) r := by
  obtain ⟨e1, e2⟩ := ev_limits d
  unfold spec_CountLimitedSweeps.f impl_CountLimitedSweeps.f
  cases ho : ordB l with
  | false =>
    refine ⟨(0, false), Ev.bind (ev_l2Order l) ?_, Ev.bind (ev_isOrder l) ?_⟩
    · rw [ho]
      simp only [Bool.false_eq_true, ↓reduceIte]
      exact Ev.step (f := fun _ => some (0, false)) (fun k => by simp only [spec_CountLimitedSweeps.j0, ↓reduceIte]) (Ev.now _)
    · rw [ho]
      simp only [Bool.false_eq_true, ↓reduceIte]
      exact Ev.step (f := fun _ => some (0, false)) (fun k => by simp only [impl_CountLimitedSweeps.j0, ↓reduceIte]) (Ev.now _)
  | true =>
    cases hd : (decide (1 ≤ d) && decide (d ≤ 7)) with
    | false =>
      refine ⟨(0, false), Ev.bind (ev_l2Order l) ?_, Ev.bind (ev_isOrder l) ?_⟩
      · rw [ho]
        simp only [e1, hd, Option.bind_some, Bool.not_false, ↓reduceIte]
        exact Ev.step (f := fun _ => some (0, false)) (fun k => by simp only [spec_CountLimitedSweeps.j0, ↓reduceIte]) (Ev.now _)
      · rw [ho]
        simp only [e2, hd, Option.bind_some, Bool.false_eq_true, ↓reduceIte]
        exact Ev.step (f := fun _ => some (0, false)) (fun k => by simp only [impl_CountLimitedSweeps.j0, ↓reduceIte]) (Ev.now _)
    | true =>
      obtain ⟨h1, h7⟩ := ordB_len ho
      have hP := ordB_P ho
      have hd' := hd
      simp only [Bool.and_eq_true, decide_eq_true_eq] at hd'
      have start : ∀ r, Ev (fun k => spec_CountLimitedSweeps.l0 k l d 0 l) r → Ev (fun k => (spec_l2Order.f k l).bind fun t400 => (if t400 = true then ((spec_l10Limit.f d).bind fun t401 => (spec_CountLimitedSweeps.j0 k l d (!t401))) else (spec_CountLimitedSweeps.j0 k l d true))) r := by
        intro r hr
        refine Ev.bind (ev_l2Order l) ?_
        rw [ho]
        simp only [e1, hd, Option.bind_some, Bool.not_true, ↓reduceIte]
        refine Ev.step (f := fun k => spec_CountLimitedSweeps.l0 k l d 0 l) (fun k => ?_) hr
        simp only [spec_CountLimitedSweeps.j0, ev_l1Own l h7, Option.bind_some, Bool.false_eq_true, ↓reduceIte]
      by_cases hd1 : d = 1
      · by_cases es : l = iota 1 l.length
        · refine ⟨(0, true), start _ ?_, ?_⟩
          · refine Ev.step (f := fun k => (spec_l2Sorted.f k (l.length : Int)).bind fun t405 => ((spec_l1Same.f k l t405).bind fun t408 => (if t408 = true then some ((0 : Int), true) else (some (0, false))))) (fun k => by simp only [spec_CountLimitedSweeps.l0, hd1, ↓reduceIte]) ?_
            refine Ev.bind (ev_l2Sorted l.length (by omega)) (Ev.bind (ev_l1Same l _ (by omega)) ?_)
            rw [decide_eq_true es]
            simp only [↓reduceIte]
            exact Ev.now _
          · refine Ev.bind (ev_isOrder l) ?_
            rw [ho]
            simp only [e2, hd, Option.bind_some, ↓reduceIte]
            simp only [if_pos hd1]
            refine Ev.bind (ev_isSorted l h7 h1 hP) ?_
            rw [decide_eq_true es]
            refine Ev.step (f := fun k => impl_CountLimitedSweeps.l0 k d 0 l) (fun k => by simp only [impl_CountLimitedSweeps.j0, Bool.not_true, Bool.false_eq_true, ↓reduceIte]) ?_
            refine Ev.step (f := fun k => (impl_isSorted.f k l).bind fun t421 => (if t421 = true then (some ((0 : Int), true)) else ((impl_limitedSweep.f k l d).bind fun t422 => (impl_CountLimitedSweeps.l0 k d (wrap64 ((0 : Int) + 1)) t422)))) (fun k => by simp only [impl_CountLimitedSweeps.l0]) ?_
            refine Ev.bind (ev_isSorted l h7 h1 hP) ?_
            rw [decide_eq_true es]
            simp only [↓reduceIte]
            exact Ev.now _
        · refine ⟨(0, false), start _ ?_, ?_⟩
          · refine Ev.step (f := fun k => (spec_l2Sorted.f k (l.length : Int)).bind fun t405 => ((spec_l1Same.f k l t405).bind fun t408 => (if t408 = true then some ((0 : Int), true) else (some (0, false))))) (fun k => by simp only [spec_CountLimitedSweeps.l0, hd1, ↓reduceIte]) ?_
            refine Ev.bind (ev_l2Sorted l.length (by omega)) (Ev.bind (ev_l1Same l _ (by omega)) ?_)
            rw [decide_eq_false es]
            simp only [Bool.false_eq_true, ↓reduceIte]
            exact Ev.now _
          · refine Ev.bind (ev_isOrder l) ?_
            rw [ho]
            simp only [e2, hd, Option.bind_some, ↓reduceIte]
            simp only [if_pos hd1]
            refine Ev.bind (ev_isSorted l h7 h1 hP) ?_
            rw [decide_eq_false es]
            exact Ev.step (f := fun _ => some (0, false)) (fun k => by simp only [impl_CountLimitedSweeps.j0, Bool.not_false, ↓reduceIte]) (Ev.now _)
      · obtain ⟨r, a, b⟩ := count_loops l d (by omega) h1 h7 l.length l [] 0 rfl (by simp) (by simpa using hP) List.Pairwise.nil (by simp) (by omega)
        rw [List.append_nil] at a b
        refine ⟨(r, true), start _ a, ?_⟩
        refine Ev.bind (ev_isOrder l) ?_
        rw [ho]
        simp only [e2, hd, Option.bind_some, hd1, ↓reduceIte]
        exact Ev.step (f := fun k => impl_CountLimitedSweeps.l0 k d 0 l) (fun k => by simp only [impl_CountLimitedSweeps.j0, Bool.false_eq_true, ↓reduceIte]) b
theorem FnExactCountLimitedSweeps : laws_FnExactCountLimitedSweeps.Pure := by
  intro l d _ _ _ _
  by_cases hl : (l.length : Int) > 1048576
  · exact ⟨0, by simp only [laws_FnExactCountLimitedSweeps.f, hl, ↓reduceIte]⟩
  · have hl' : l.length ≤ 1048576 := by omega
    obtain ⟨r, ⟨K1, h1⟩, ⟨K2, h2⟩⟩ := both_CountLimitedSweeps l d
    obtain ⟨K3, h3⟩ := ev_toIntS l hl'
    obtain ⟨K4, h4⟩ := ev_eqIntS l (by omega)
    dsimp only at h1 h2 h3 h4
    refine ⟨K1 + K2 + K3 + K4 + 10, ?_⟩
    simp only [laws_FnExactCountLimitedSweeps.f]
    repeat first
      | with_reducible rfl
      | (with_reducible refine bind_of (h1 _ (by omega)) ?_; try dsimp only)
      | (with_reducible refine bind_of (h2 _ (by omega)) ?_; try dsimp only)
      | (with_reducible refine bind_of (h3 _ (by omega)) ?_; try dsimp only)
      | (with_reducible refine bind_of (h4 _ (by omega)) ?_; try dsimp only)
      | rw [if_pos rfl]
      | rw [bne_self_eq_false]
      | rw [if_neg Bool.false_ne_true]
      | rw [if_neg hl]
      | simp only [laws_FnExactCountLimitedSweeps.j0]

end Go.Proofs.Ytppfobgmbjjdhaa.Pure
