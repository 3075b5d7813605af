/- IsSortableWithin: the program and the reference tell the same of every list (of at most 1048576 numbers: of longer ones the law says nothing) and every limit, and the list stays as it was. -/
import Derived.Test.YtppfobgmbjjdhaaXy5
import Derived.Test.YtppfobgmbjjdhaaXy3
import Derived.Test.YtppfobgmbjjdhaaXy4
import Derived.Test.YtppfobgmbjjdhaaXy1
import Derived.Test.YtppfobgmbjjdhaaXy2
import Derived.Test.YtppfobgmbjjdhaaPk
set_option linter.unusedVariables false
set_option linter.unusedSimpArgs false
namespace Go.Proofs.Ytppfobgmbjjdhaa.Pure
open Go.RowKit Go.Proofs.Ytppfobgmbjjdhaa.Xy Go.Proofs.YtppfobgmbjjdhaaW.PrintWords Go.Proofs.YtppfobgmbjjdhaaW.PrintLast Go.Proofs.Ytppfobgmbjjdhaa.Pk

theorem ev_l1In' (a b c : Int) : spec_l1In.f a b c = some (decide (b ≤ a) && decide (a ≤ c)) := by
  unfold spec_l1In.f
  by_cases h : b ≤ a
  · rw [if_pos h, decide_eq_true h, Bool.true_and]
  · rw [if_neg h, decide_eq_false h, Bool.false_and]
/-! ### is a list an order? -/
theorem ev_l1Has_l0 (l : List Int) (x : Int) (hl : l.length < 9223372036854775807) (d : Nat) : ∀ j : Nat, j + d = l.length → Ev (fun k => spec_l1Has.l0 k l x (j : Int)) ((l.drop j).contains x) := by
  induction d with
  | zero =>
    intro j hj
    have c : ¬ (j : Int) < (l.length : Int) := by omega
    rw [List.drop_of_length_le (by omega)]
    exact Ev.step (fun k => by simp only [spec_l1Has.l0, c, ↓reduceIte] <;> rfl) (Ev.now _)
  | succ d ih =>
    intro j hj
    have c : (j : Int) < (l.length : Int) := by omega
    have c0 : 0 ≤ (j : Int) := by omega
    have e1 : wrap64 ((j : Int) + 1) = ((j + 1 : Nat) : Int) := wj (by omega)
    rw [rd_drop l j (by omega), List.contains_cons]
    by_cases h : rd l (j : Int) = x
    · have : (x == rd l (j : Int)) = true := by rw [h]; exact beq_self_eq_true x
      rw [this, Bool.true_or]
      exact Ev.step (fun k => by simp only [spec_l1Has.l0, c, c0, h, ↓reduceIte] <;> rfl) (Ev.now _)
    · have : (x == rd l (j : Int)) = false := beq_eq_false_iff_ne.2 (fun e => h e.symm)
      rw [this, Bool.false_or]
      exact Ev.step (fun k => by simp only [spec_l1Has.l0, c, c0, h, e1, ↓reduceIte]) (ih (j + 1) (by omega))
theorem ev_l1Has (l : List Int) (x : Int) (hl : l.length < 9223372036854775807) : Ev (fun k => spec_l1Has.f k l x) (l.contains x) := by
  have := ev_l1Has_l0 l x hl l.length 0 (by omega)
  rw [List.drop_zero] at this
  exact this
theorem ev_Index_l0 (l : List Int) (x : Int) (hl : l.length < 9223372036854775807) (d : Nat) : ∀ j : Nat, j + d = l.length → ∃ r : Int, Ev (fun k => slices_Index_int_int.l0 k l x (l.length : Int) (j : Int)) r ∧ decide (r ≥ 0) = (l.drop j).contains x := by
  induction d with
  | zero =>
    intro j hj
    have c : ¬ (j : Int) < (l.length : Int) := by omega
    rw [List.drop_of_length_le (by omega)]
    exact ⟨-1, Ev.step (fun k => by simp only [slices_Index_int_int.l0, c, ↓reduceIte] <;> rfl) (Ev.now _), rfl⟩
  | succ d ih =>
    intro j hj
    have c : (j : Int) < (l.length : Int) := by omega
    have c0 : 0 ≤ (j : Int) := by omega
    have e1 : wrap64 ((j : Int) + 1) = ((j + 1 : Nat) : Int) := wj (by omega)
    rw [rd_drop l j (by omega), List.contains_cons]
    by_cases h : x = rd l (j : Int)
    · have : (x == rd l (j : Int)) = true := beq_iff_eq.2 h
      rw [this, Bool.true_or]
      exact ⟨j, Ev.step (fun k => by simp only [slices_Index_int_int.l0, c, c0, ↓reduceIte]; rw [if_pos h]) (Ev.now _), by simp⟩
    · have : (x == rd l (j : Int)) = false := beq_eq_false_iff_ne.2 h
      rw [this, Bool.false_or]
      obtain ⟨r, hr, hd⟩ := ih (j + 1) (by omega)
      exact ⟨r, Ev.step (fun k => by simp only [slices_Index_int_int.l0, c, c0, h, e1, ↓reduceIte]) hr, hd⟩
theorem ev_Contains (l : List Int) (x : Int) (hl : l.length < 9223372036854775807) : Ev (fun k => slices_Contains_int_int.f k l x) (l.contains x) := by
  obtain ⟨r, hr, hd⟩ := ev_Index_l0 l x hl l.length 0 (by omega)
  rw [List.drop_zero] at hd
  unfold slices_Contains_int_int.f slices_Index_int_int.f
  refine Ev.bind hr ?_
  rw [hd]
  exact Ev.now _
theorem ev_l2Order_l0 (l : List Int) (hl : l.length ≤ 7) (d : Nat) : ∀ j : Nat, j + d = l.length → Ev (fun k => spec_l2Order.l0 k l (j : Int)) (chk l.length (l.take j) (l.drop j)) := by
  induction d with
  | zero =>
    intro j hj
    have c : ¬ (j : Int) < (l.length : Int) := by omega
    rw [List.drop_of_length_le (by omega)]
    exact Ev.step (fun k => by simp only [spec_l2Order.l0, c, ↓reduceIte] <;> rfl) (Ev.now _)
  | succ d ih =>
    intro j hj
    have c : (j : Int) < (l.length : Int) := by omega
    have c0 : 0 ≤ (j : Int) := by omega
    have c1 : (j : Int) ≤ (l.length : Int) := by omega
    have e1 : wrap64 ((j : Int) + 1) = ((j + 1 : Nat) : Int) := wj (by omega)
    rw [rd_drop l j (by omega), chk, ← take_succ l j (by omega)]
    by_cases h : (decide (1 ≤ rd l (j : Int)) && decide (rd l (j : Int) ≤ (l.length : Int))) = true
    · rw [h, Bool.true_and]
      refine Ev.step (f := fun k => (spec_l1Has.f k (l.take j) (rd l (j : Int))).bind fun t => if t = true then some false else spec_l2Order.l0 k l ((j + 1 : Nat) : Int)) (fun k => by simp only [spec_l2Order.l0, c, c0, c1, ev_l1In', h, e1, Option.bind_some, Int.toNat_natCast, ↓reduceIte]) ?_
      refine Ev.bind (ev_l1Has (l.take j) _ (by rw [List.length_take]; omega)) ?_
      cases hc : (l.take j).contains (rd l (j : Int)) with
      | true =>
        simp only [↓reduceIte, Bool.not_true, Bool.false_and]
        exact Ev.now _
      | false =>
        simp only [Bool.false_eq_true, ↓reduceIte, Bool.not_false, Bool.true_and]
        exact ih (j + 1) (by omega)
    · have h' := Bool.eq_false_iff.2 h
      rw [h', Bool.false_and, Bool.false_and]
      exact Ev.step (fun k => by simp only [spec_l2Order.l0, c, c0, ev_l1In', h', Option.bind_some, Bool.false_eq_true, ↓reduceIte] <;> rfl) (Ev.now _)
theorem ev_l2Order (l : List Int) : Ev (fun k => spec_l2Order.f k l) (ordB l) := by
  unfold spec_l2Order.f ordB
  simp only [ev_l1In', Option.bind_some]
  by_cases h1 : 1 ≤ l.length
  · have g1 : (1 : Int) ≤ (l.length : Int) := by omega
    by_cases h7 : l.length ≤ 7
    · have g7 : (l.length : Int) ≤ 7 := by omega
      have := ev_l2Order_l0 l h7 l.length 0 (by omega)
      simp only [h1, h7, g1, g7, decide_true, Bool.and_true, Bool.true_and, ↓reduceIte]
      rw [List.take_zero, List.drop_zero] at this
      exact this
    · have g7 : ¬ (l.length : Int) ≤ 7 := by omega
      simp only [h7, g7, decide_false, Bool.and_false, Bool.false_and, Bool.false_eq_true, ↓reduceIte]
      exact Ev.now _
  · have g1 : ¬ (1 : Int) ≤ (l.length : Int) := by omega
    simp only [h1, g1, decide_false, Bool.false_and, Bool.false_eq_true, ↓reduceIte]
    exact Ev.now _
theorem ev_isOrder_l0 (l : List Int) (hl : l.length ≤ 7) (d : Nat) : ∀ j : Nat, j + d = l.length → Ev (fun k => impl_isOrder.l0 k l l (l.length : Int) (j : Int)) (chk l.length (l.take j) (l.drop j)) := by
  induction d with
  | zero =>
    intro j hj
    have c : ¬ (j : Int) < (l.length : Int) := by omega
    rw [List.drop_of_length_le (by omega)]
    exact Ev.step (fun k => by simp only [impl_isOrder.l0, c, ↓reduceIte] <;> rfl) (Ev.now _)
  | succ d ih =>
    intro j hj
    have c : (j : Int) < (l.length : Int) := by omega
    have c0 : 0 ≤ (j : Int) := by omega
    have c1 : (j : Int) ≤ (l.length : Int) := by omega
    have e1 : wrap64 ((j : Int) + 1) = ((j + 1 : Nat) : Int) := wj (by omega)
    rw [rd_drop l j (by omega), chk, ← take_succ l j (by omega)]
    by_cases h1 : 1 ≤ rd l (j : Int)
    · have g1 : ¬ rd l (j : Int) < 1 := by omega
      by_cases h2 : rd l (j : Int) ≤ (l.length : Int)
      · have g2 : ¬ rd l (j : Int) > (l.length : Int) := by omega
        simp only [h1, h2, decide_true, Bool.true_and]
        refine Ev.step (f := fun k => (slices_Contains_int_int.f k (l.take j) (rd l (j : Int))).bind fun t => if t = true then some false else impl_isOrder.l0 k l l (l.length : Int) ((j + 1 : Nat) : Int)) (fun k => by simp only [impl_isOrder.l0, c, c0, c1, g1, g2, e1, Int.toNat_natCast, ↓reduceIte]) ?_
        refine Ev.bind (ev_Contains (l.take j) _ (by rw [List.length_take]; omega)) ?_
        cases hc : (l.take j).contains (rd l (j : Int)) with
        | true =>
          simp only [↓reduceIte, Bool.not_true, Bool.false_and]
          exact Ev.now _
        | false =>
          simp only [Bool.false_eq_true, ↓reduceIte, Bool.not_false, Bool.true_and]
          exact ih (j + 1) (by omega)
      · have g2 : rd l (j : Int) > (l.length : Int) := by omega
        simp only [h2, decide_false, Bool.and_false, Bool.false_and]
        exact Ev.step (fun k => by simp only [impl_isOrder.l0, c, c0, g1, g2, ↓reduceIte] <;> rfl) (Ev.now _)
    · have g1 : rd l (j : Int) < 1 := by omega
      simp only [h1, decide_false, Bool.false_and]
      exact Ev.step (fun k => by simp only [impl_isOrder.l0, c, c0, g1, ↓reduceIte] <;> rfl) (Ev.now _)
theorem ev_isOrder (l : List Int) : Ev (fun k => impl_isOrder.f k l) (ordB l) := by
  unfold impl_isOrder.f ordB
  by_cases h1 : 1 ≤ l.length
  · have g1 : ¬ (l.length : Int) < 1 := by omega
    by_cases h7 : l.length ≤ 7
    · have g7 : ¬ (l.length : Int) > 7 := by omega
      have := ev_isOrder_l0 l h7 l.length 0 (by omega)
      simp only [h1, h7, g1, g7, decide_true, decide_false, Bool.true_and, ↓reduceIte]
      refine Ev.step (fun k => by simp only [impl_isOrder.j0, Bool.false_eq_true, ↓reduceIte] <;> rfl) ?_
      rw [List.take_zero, List.drop_zero] at this
      exact this
    · have g7 : (l.length : Int) > 7 := by omega
      simp only [h7, g1, g7, decide_true, decide_false, Bool.and_false, Bool.false_and, ↓reduceIte]
      exact Ev.step (fun k => by simp only [impl_isOrder.j0, ↓reduceIte] <;> rfl) (Ev.now _)
  · have g1 : (l.length : Int) < 1 := by omega
    simp only [h1, g1, decide_false, Bool.false_and, ↓reduceIte]
    exact Ev.step (fun k => by simp only [impl_isOrder.j0, ↓reduceIte] <;> rfl) (Ev.now _)
theorem ev_isSize (a : Int) : impl_isSize.f a = some (decide (1 ≤ a) && decide (a ≤ 7)) := by
  unfold impl_isSize.f
  by_cases h : 1 ≤ a
  · rw [if_pos h, decide_eq_true h, Bool.true_and]
  · rw [if_neg h, decide_eq_false h, Bool.false_and]
theorem ev_limits (d : Int) : spec_l10Limit.f d = some (decide (1 ≤ d) && decide (d ≤ 7)) ∧ impl_isLimit.f d = some (decide (1 ≤ d) && decide (d ≤ 7)) := by
  unfold spec_l10Limit.f impl_isLimit.f
  rw [ev_l1In', ev_isSize]
  exact ⟨rfl, rfl⟩
/-! ### texts out of numbers -/
theorem son_append (x y : List Int) : strOfNums (x ++ y) = strOfNums x ++ strOfNums y := by
  apply ByteArray.ext
  simp [strOfNums]
theorem son_79 : (⟨#[79]⟩ : ByteArray) = strOfNums [79] := rfl
theorem son_73 : (⟨#[73]⟩ : ByteArray) = strOfNums [73] := rfl
theorem son_size (x : List Int) : (strOfNums x).size = x.length := by simp [strOfNums, ByteArray.size]
theorem bs_son (x : List Int) (h : ∀ c ∈ x, c = 73 ∨ c = 79) : bs (strOfNums x) = x := by
  unfold bs strOfNums
  simp only [List.map_map]
  refine (List.map_congr_left ?_).trans (List.map_id x)
  intro c hc
  rcases h c hc with rfl | rfl <;> rfl
/-! ### the sorted order -/
theorem iota_get (n i : Nat) (h : i < n) : rd (iota 1 n) (i : Int) = 1 + (i : Int) := rd_iota 1 n i h
theorem ev_l2Sorted (n : Nat) (hn : n ≤ 1000) : Ev (fun k => spec_l2Sorted.f k (n : Int)) (iota 1 n) := by
  have go : ∀ (m j : Nat), j + m = n → Ev (fun k => spec_l2Sorted.l0 k (n : Int) (iota 1 j) (1 + (j : Int))) (iota 1 n) := by
    intro m
    induction m with
    | zero =>
      intro j hj
      have c : ¬ 1 + (j : Int) ≤ (n : Int) := by omega
      obtain rfl : j = n := by omega
      exact Ev.step (f := fun _ => some (iota 1 j)) (fun k => by simp only [spec_l2Sorted.l0, c, ↓reduceIte]) (Ev.now _)
    | succ m ih =>
      intro j hj
      have c : 1 + (j : Int) ≤ (n : Int) := by omega
      have lim : (iota 1 j).length < 17592186044416 := by rw [iota_length]; omega
      have e := Aside0.mk (show wrap64 (1 + (j : Int) + 1) = 1 + ((j + 1 : Nat) : Int) from by rw [wr (by omega) (by omega)]; omega)
      refine Ev.step (fun k => ?_) (ih (j + 1) (by omega))
      simp only [spec_l2Sorted.l0, c, lim, e.out, ↓reduceIte]
      rw [iota_succ]
  have := go n 0 (by omega)
  exact this
/-! ### the word by which a target comes out; depths -/
/-- How high the stack stands behind signs. -/
def hgt : List Int → Int → Option Int
  | [], h => some h
  | c :: t, h => if c = 73 then hgt t (h + 1) else if c = 79 then (if h - 1 < 0 then none else hgt t (h - 1)) else none
theorem hgt_append : ∀ (a b : List Int) (h : Int), hgt (a ++ b) h = (hgt a h).bind (hgt b)
  | [], b, h => rfl
  | c :: t, b, h => by
    simp only [List.cons_append, hgt]
    split
    · exact hgt_append t b _
    · split
      · split
        · rfl
        · exact hgt_append t b _
      · rfl
theorem hgt_byte : ∀ (l : List Int) (h r : Int), hgt l h = some r → ∀ c ∈ l, c = 73 ∨ c = 79
  | [], _, _, _ => by intro c hc; cases hc
  | x :: t, h, r, e => by
    intro c hc
    simp only [hgt] at e
    split at e
    · rcases List.mem_cons.1 hc with rfl | hc
      · exact .inl (by assumption)
      · exact hgt_byte t _ _ e c hc
    · split at e
      · split at e
        · cases e
        · rcases List.mem_cons.1 hc with rfl | hc
          · exact .inr (by assumption)
          · exact hgt_byte t _ _ e c hc
      · cases e
theorem to_l1 (l t : List Int) (ht : t.length = l.length) (hl : l.length ≤ 100) (m : Nat) : ∀ (i j : Nat) (st out : List Int), (l.length - i) + (t.length - j) = m → j < t.length → i ≤ l.length → st.length + j = i → out.length = i + j → hgt out 0 = some (st.length : Int) →
    ∃ r b, (b = true → hgt r 0 = some 0 ∧ r.length = 2 * l.length) ∧ Ev (fun k => spec_l2To.l1 k l t (strOfNums out) st (i : Int) (j : Int)) (strOfNums r, b) ∧ Ev (fun k => impl_wordTo.l1 k (l.drop i) st out (rd t (j : Int)) t (t.length : Int) (j : Int)) (strOfNums r, b) := by
  induction m with
  | zero => intro i j st out hm hj; omega
  | succ m ih =>
    intro i j st out hm hj hi hs ho hh
    have cj0 : 0 ≤ (j : Int) := by omega
    have cj : (j : Int) < (t.length : Int) := by omega
    have ci0 : 0 ≤ (i : Int) := by omega
    have lim : st.length < 17592186044416 := by omega
    have limr : st.length + ([rd (l.drop i) 0] : List Int).length < 17592186044416 := by simp; omega
    have limo : out.length + ([73] : List Int).length < 140737488355328 := by simp; omega
    have limo' : out.length + ([79] : List Int).length < 140737488355328 := by simp; omega
    have so : (strOfNums out).size + 1 ≤ 9223372036854775807 := by rw [son_size]; omega
    have ei := Aside0.mk (show wrap64 ((i : Int) + 1) = ((i + 1 : Nat) : Int) from wj (by omega))
    have ej := Aside0.mk (show wrap64 ((j : Int) + 1) = ((j + 1 : Nat) : Int) from wj (by omega))
    -- one more is pushed
    have push : i < l.length → ∃ r b, (b = true → hgt r 0 = some 0 ∧ r.length = 2 * l.length) ∧ Ev (fun k => spec_l2To.l1 k l t (strOfNums out ++ (⟨#[73]⟩ : ByteArray)) (st ++ [rd l (i : Int)]) ((i + 1 : Nat) : Int) (j : Int)) (strOfNums r, b) ∧ Ev (fun k => impl_wordTo.l1 k ((l.drop i).drop 1) (st ++ [rd (l.drop i) 0]) (out ++ [73]) (rd t (j : Int)) t (t.length : Int) (j : Int)) (strOfNums r, b) := by
      intro hil
      have h := ih (i + 1) j (st ++ [rd l (i : Int)]) (out ++ [73]) (by omega) hj (by omega) (by simp; omega) (by simp; omega) (by
        rw [hgt_append, hh]
        simp [hgt])
      rw [son_append, ← son_73] at h
      have e0 : rd (l.drop i) 0 = rd l (i : Int) := by rw [rd_drop l i hil]; rfl
      rw [List.drop_drop, e0]
      exact h
    rcases snoc_cases st with rfl | ⟨s, x, rfl⟩
    · -- nothing is on the stack
      have hs' : j = i := by simpa using hs
      have hil : i < l.length := by omega
      obtain ⟨r, b, hb, h1, h2⟩ := push hil
      refine ⟨r, b, hb, ?_, ?_⟩
      · have cil : (i : Int) < (l.length : Int) := by omega
        have z : (([] : List Int).length : Int) = 0 := rfl
        refine Ev.step (fun k => ?_) h1
        simp only [spec_l2To.l1, cil, z, ci0, lim, so, ei.out, ↓reduceIte]
      · have z : (([] : List Int).length : Int) = 0 := rfl
        have g : ¬ ((l.drop i).length : Int) = 0 := by rw [List.length_drop]; omega
        have g0 : 0 < ((l.drop i).length : Int) := by rw [List.length_drop]; omega
        have g1 : 1 ≤ ((l.drop i).length : Int) := by omega
        refine Ev.step (f := fun k => impl_wordTo.j2 k (l.drop i) [] out (rd t (j : Int)) t (t.length : Int) (j : Int) true) (fun k => by simp only [impl_wordTo.l1, z, ↓reduceIte]) ?_
        refine Ev.step (fun k => ?_) h2
        simp only [impl_wordTo.j2, g, g0, g1, limr, limo, Option.bind_some, ↓reduceIte]
    · have hlen : (s ++ [x]).length = s.length + 1 := by simp
      have hs' : s.length + 1 + j = i := by rw [← hlen]; exact hs
      have z : ¬ ((s ++ [x]).length : Int) = 0 := by rw [hlen]; omega
      have et := Aside0.mk (show wrap64 (((s ++ [x]).length : Int) - 1) = (s.length : Int) from by rw [hlen, wr (by omega) (by omega)]; omega)
      have etop : rd (s ++ [x]) (s.length : Int) = x := by rw [rd_nat]; simp
      have t0 : 0 ≤ (s.length : Int) := by omega
      have t1 : (s.length : Int) < ((s ++ [x]).length : Int) := by rw [hlen]; omega
      have t2 : (s.length : Int) ≤ ((s ++ [x]).length : Int) := by rw [hlen]; omega
      have etake : (s ++ [x]).take ((s.length : Int)).toNat = s := by rw [Int.toNat_natCast]; simp
      by_cases hx : x = rd t (j : Int)
      · -- it comes out
        have hh' : hgt (out ++ [79]) 0 = some (s.length : Int) := by
          rw [hgt_append, hh]
          have a1 : ¬ ((s ++ [x]).length : Int) - 1 < 0 := by rw [hlen]; omega
          have a2 : ((s ++ [x]).length : Int) - 1 = (s.length : Int) := by rw [hlen]; omega
          show hgt [79] ((s ++ [x]).length : Int) = some (s.length : Int)
          simp only [hgt]
          rw [if_neg (by decide), if_pos trivial, if_neg a1, a2]
        have next : ∃ r b, (b = true → hgt r 0 = some 0 ∧ r.length = 2 * l.length) ∧ Ev (fun k => spec_l2To.l0 k l t (strOfNums out ++ (⟨#[79]⟩ : ByteArray)) s (i : Int) ((j + 1 : Nat) : Int)) (strOfNums r, b) ∧ Ev (fun k => impl_wordTo.l0 k (l.drop i) s (out ++ [79]) t (t.length : Int) ((j + 1 : Nat) : Int)) (strOfNums r, b) := by
          by_cases hj1 : j + 1 < t.length
          · obtain ⟨r, b, hb, h1, h2⟩ := ih i (j + 1) s (out ++ [79]) (by omega) hj1 hi (by omega) (by simp; omega) hh'
            have c : ((j + 1 : Nat) : Int) < (t.length : Int) := by omega
            have c0 : 0 ≤ ((j + 1 : Nat) : Int) := by omega
            rw [son_append, ← son_79] at h1
            exact ⟨r, b, hb, Ev.step (fun k => by simp only [spec_l2To.l0, c, ↓reduceIte]) h1, Ev.step (fun k => by simp only [impl_wordTo.l0, c, c0, ↓reduceIte]) h2⟩
          · have c : ¬ ((j + 1 : Nat) : Int) < (t.length : Int) := by omega
            refine ⟨out ++ [79], true, fun _ => ⟨by rw [hh']; congr 1; omega, by simp; omega⟩, ?_, ?_⟩
            · rw [son_append, ← son_79]
              exact Ev.step (f := fun _ => some (strOfNums out ++ (⟨#[79]⟩ : ByteArray), true)) (fun k => by simp only [spec_l2To.l0, c, ↓reduceIte]) (Ev.now _)
            · exact Ev.step (f := fun _ => some (strOfNums (out ++ [79]), true)) (fun k => by simp only [impl_wordTo.l0, c, ↓reduceIte]) (Ev.now _)
        obtain ⟨r, b, hb, h1, h2⟩ := next
        refine ⟨r, b, hb, ?_, ?_⟩
        · refine Ev.step (fun k => ?_) h1
          by_cases hil : (i : Int) < (l.length : Int)
          · simp only [spec_l2To.l1, hil, z, et.out, t0, t1, t2, cj0, cj, etop, etake, so, ej.out, ↓reduceIte]
            rw [if_pos hx]
          · simp only [spec_l2To.l1, hil, et.out, t0, t1, t2, cj0, cj, etop, etake, so, ej.out, ↓reduceIte]
            rw [if_pos hx]
        · have hne : (x != rd t (j : Int)) = false := by rw [hx]; exact bne_self_eq_false _
          refine Ev.step (f := fun k => impl_wordTo.j2 k (l.drop i) (s ++ [x]) out (rd t (j : Int)) t (t.length : Int) (j : Int) false) (fun k => by simp only [impl_wordTo.l1, z, et.out, t0, t1, etop, hne, ↓reduceIte]) ?_
          refine Ev.step (fun k => ?_) h2
          simp only [impl_wordTo.j2, et.out, t0, t2, etake, limo', ej.out, Option.bind_some, Bool.false_eq_true, ↓reduceIte]
      · have hne : (x != rd t (j : Int)) = true := bne_iff_ne.2 hx
        by_cases hil : i < l.length
        · obtain ⟨r, b, hb, h1, h2⟩ := push hil
          have cil : (i : Int) < (l.length : Int) := by omega
          refine ⟨r, b, hb, ?_, ?_⟩
          · refine Ev.step (fun k => ?_) h1
            simp only [spec_l2To.l1, cil, z, et.out, t0, t1, cj0, cj, etop, ci0, lim, so, ei.out, ↓reduceIte]
            rw [if_neg hx]
          · have g : ¬ ((l.drop i).length : Int) = 0 := by rw [List.length_drop]; omega
            have g0 : 0 < ((l.drop i).length : Int) := by rw [List.length_drop]; omega
            have g1 : 1 ≤ ((l.drop i).length : Int) := by omega
            refine Ev.step (f := fun k => impl_wordTo.j2 k (l.drop i) (s ++ [x]) out (rd t (j : Int)) t (t.length : Int) (j : Int) true) (fun k => by simp only [impl_wordTo.l1, z, et.out, t0, t1, etop, hne, ↓reduceIte]) ?_
            refine Ev.step (fun k => ?_) h2
            simp only [impl_wordTo.j2, g, g0, g1, limr, limo, Option.bind_some, ↓reduceIte]
        · have cil : ¬ (i : Int) < (l.length : Int) := by omega
          have g : ((l.drop i).length : Int) = 0 := by rw [List.length_drop]; omega
          refine ⟨[], false, (fun h => by cases h), ?_, ?_⟩
          · refine Ev.step (f := fun _ => some ((⟨#[]⟩ : ByteArray), false)) (fun k => ?_) (Ev.now _)
            simp only [spec_l2To.l1, cil, et.out, t0, t1, cj0, cj, etop, ↓reduceIte]
            rw [if_neg hx]
          · refine Ev.step (f := fun k => impl_wordTo.j2 k (l.drop i) (s ++ [x]) out (rd t (j : Int)) t (t.length : Int) (j : Int) true) (fun k => by simp only [impl_wordTo.l1, z, et.out, t0, t1, etop, hne, ↓reduceIte]) ?_
            refine Ev.step (f := fun _ => some ((⟨#[]⟩ : ByteArray), false)) (fun k => ?_) (Ev.now _)
            simp only [impl_wordTo.j2, g, ↓reduceIte]
theorem ev_wordTo (l t : List Int) (ht : t.length = l.length) (hl : l.length ≤ 100) (h1 : 1 ≤ l.length) : ∃ r b, (b = true → hgt r 0 = some 0 ∧ r.length = 2 * l.length) ∧ Ev (fun k => spec_l2To.f k l t) (strOfNums r, b) ∧ Ev (fun k => impl_wordTo.f k l t) (strOfNums r, b) := by
  obtain ⟨r, b, hb, e1, e2⟩ := to_l1 l t ht hl (l.length + t.length) 0 0 [] [] (by omega) (by omega) (by omega) rfl rfl rfl
  have c : (0 : Int) < (t.length : Int) := by omega
  rw [List.drop_zero] at e2
  unfold spec_l2To.f impl_wordTo.f
  refine ⟨r, b, hb, ?_, ?_⟩
  · exact Ev.step (fun k => by simp only [spec_l2To.l0, c, ↓reduceIte] <;> rfl) e1
  · exact Ev.step (fun k => by simp only [impl_wordTo.l0, c, Int.le_refl, ↓reduceIte] <;> rfl) e2
theorem most_mx (a b : Int) : spec_l1Most.f a b = some (mx a b) := by
  unfold spec_l1Most.f mx
  split
  · rw [if_neg (by omega)]
  · split
    · rfl
    · congr 1; omega
theorem ev_depth (s : ByteArray) (n : Nat) (hn1 : 1 ≤ n) (hn7 : n ≤ 7) (hs : s.size = 2 * n) (hh : hgt (bs s) 0 = some 0) : ∃ d, Ev (fun k => spec_l2Depth.f k s) d ∧ Ev (fun k => impl_depthOf.f k s) (d, true) := by
  have go : ∀ (m j : Nat) (h M : Int), j + m = s.size → 0 ≤ h → h ≤ j → hgt ((bs s).drop j) h = some 0 → ∃ d, Ev (fun k => spec_l2Depth.l0 k s h M (j : Int)) d ∧ Ev (fun k => impl_depthOf.l0 k s h M (s.size : Int) (j : Int)) (d, true) := by
    intro m
    induction m with
    | zero =>
      intro j h M hj h0 hhj hg
      rw [bs_end s j (by omega)] at hg
      obtain rfl : h = 0 := by simpa [hgt] using hg
      have c : ¬ (j : Int) < (s.size : Int) := by omega
      have e1 := Aside0.mk (show wrap64 ((s.size : Int) / 2) = (n : Int) from by rw [wr (by omega) (by omega)]; omega)
      have e2 : impl_isSize.f (n : Int) = some true := by
        rw [ev_isSize, decide_eq_true (by omega), decide_eq_true (by omega)]
        rfl
      refine ⟨M, Ev.step (f := fun _ => some M) (fun k => by simp only [spec_l2Depth.l0, c, ↓reduceIte]) (Ev.now _), ?_⟩
      exact Ev.step (f := fun _ => some (M, true)) (fun k => by simp only [impl_depthOf.l0, c, e1.out, e2, Option.bind_some, ↓reduceIte]) (Ev.now _)
    | succ m ih =>
      intro j h M hj h0 hhj hg
      have c : (j : Int) < (s.size : Int) := by omega
      have c0 : 0 ≤ (j : Int) := by omega
      have e1 := Aside0.mk (show wrap64 ((j : Int) + 1) = ((j + 1 : Nat) : Int) from wj (by omega))
      have e2 := Aside0.mk (show wrap64 (h + 1) = h + 1 from wr (by omega) (by omega))
      have e3 := Aside0.mk (show wrap64 (h - 1) = h - 1 from wr (by omega) (by omega))
      rw [bs_drop s j (by omega)] at hg
      simp only [hgt] at hg
      by_cases h73 : bt s (j : Int) = 73
      · rw [if_pos h73] at hg
        obtain ⟨d, a, b⟩ := ih (j + 1) (h + 1) (mx M (h + 1)) (by omega) (by omega) (by omega) hg
        have n1 : ¬ h + 1 < 0 := by omega
        exact ⟨d, Ev.step (fun k => by simp only [spec_l2Depth.l0, c, c0, h73, e2.out, most_mx, Option.bind_some, e1.out, ↓reduceIte]) a, Ev.step (fun k => by simp only [impl_depthOf.l0, c, c0, h73, e2.out, n1, e1.out, ↓reduceIte]) b⟩
      · rw [if_neg h73] at hg
        by_cases h79 : bt s (j : Int) = 79
        · rw [if_pos h79] at hg
          by_cases n1 : h - 1 < 0
          · rw [if_pos n1] at hg
            cases hg
          · rw [if_neg n1] at hg
            obtain ⟨d, a, b⟩ := ih (j + 1) (h - 1) (mx M (h - 1)) (by omega) (by omega) (by omega) hg
            refine ⟨d, Ev.step (fun k => ?_) a, Ev.step (fun k => ?_) b⟩
            · simp only [spec_l2Depth.l0, c, c0, e3.out, most_mx, Option.bind_some, e1.out, ↓reduceIte]
              rw [if_neg h73]
            · simp only [impl_depthOf.l0, c, c0, e3.out, n1, e1.out, ↓reduceIte]
              rw [if_neg h73, if_pos h79]
        · rw [if_neg h79] at hg
          cases hg
  obtain ⟨d, a, b⟩ := go s.size 0 0 0 (by omega) (by omega) (by omega) (by rw [List.drop_zero]; exact hh)
  exact ⟨d, a, b⟩
theorem ev_sorted (n : Nat) (hn : n ≤ 1000) : Ev (fun k => impl_sorted.f k (n : Int)) (iota 1 n) := by
  have go : ∀ (m j : Nat), j + m = n → Ev (fun k => impl_sorted.l0 k (iota 1 j) (n : Int) (j : Int)) (iota 1 n) := by
    intro m
    induction m with
    | zero =>
      intro j hj
      have c : ¬ (j : Int) < (n : Int) := by omega
      obtain rfl : j = n := by omega
      exact Ev.step (f := fun _ => some (iota 1 j)) (fun k => by simp only [impl_sorted.l0, c, ↓reduceIte]) (Ev.now _)
    | succ m ih =>
      intro j hj
      have c : (j : Int) < (n : Int) := by omega
      have lim : (iota 1 j).length < 17592186044416 := by rw [iota_length]; omega
      have e := Aside0.mk (show wrap64 ((j : Int) + 1) = ((j + 1 : Nat) : Int) from wj (by omega))
      refine Ev.step (fun k => ?_) (ih (j + 1) (by omega))
      simp only [impl_sorted.l0, c, lim, e.out, ↓reduceIte]
      rw [iota_succ, show (1 : Int) + (j : Int) = ((j + 1 : Nat) : Int) by omega]
  exact go n 0 (by omega)
/-- Both try to sort by a word: the same answer, and the same depth. -/
theorem ev_limitOf (l : List Int) (h1 : 1 ≤ l.length) (h7 : l.length ≤ 7) : ∃ (w : ByteArray) (b : Bool) (d : Int), Ev (fun k => spec_l4Sortable.f k l) (w, b) ∧ (b = true → Ev (fun k => spec_l2Depth.f k w) d) ∧ Ev (fun k => impl_limitOf.f k l) (if b = true then (d, true) else (0, false)) := by
  obtain ⟨r, b, hb, e1, e2⟩ := ev_wordTo l (iota 1 l.length) (iota_length _ _) (by omega) h1
  unfold spec_l4Sortable.f impl_limitOf.f
  cases b with
  | false =>
    refine ⟨strOfNums r, false, 0, Ev.bind (ev_l2Sorted l.length (by omega)) (Ev.bind e1 (Ev.now _)), (fun h => by cases h), Ev.bind (ev_sorted l.length (by omega)) (Ev.bind e2 ?_)⟩
    simp only [Bool.false_eq_true, ↓reduceIte]
    exact Ev.now _
  | true =>
    obtain ⟨hg, hlen⟩ := hb rfl
    have hbs : bs (strOfNums r) = r := bs_son r (hgt_byte r 0 0 hg)
    obtain ⟨d, a, b⟩ := ev_depth (strOfNums r) l.length h1 h7 (by rw [son_size]; exact hlen) (by rw [hbs]; exact hg)
    refine ⟨strOfNums r, true, d, Ev.bind (ev_l2Sorted l.length (by omega)) (Ev.bind e1 (Ev.now _)), fun _ => a, Ev.bind (ev_sorted l.length (by omega)) (Ev.bind e2 ?_)⟩
    simp only [↓reduceIte]
    exact Ev.bind b (Ev.now _)
/-! ### copies of lists, lists compared -/
theorem ev_toIntS_l0 (l : List Int) (hl : l.length ≤ 1048576) (d : Nat) : ∀ j : Nat, j + d = l.length → Ev (fun k => laws_toIntS.l0 k l (l.take j ++ List.replicate (l.length - j) 0) (j : Int)) l := by
  induction d with
  | zero =>
    intro j hj
    have c : ¬ (j : Int) < (l.length : Int) := by omega
    have e : l.take j ++ List.replicate (l.length - j) 0 = l := by rw [List.take_of_length_le (by omega), show l.length - j = 0 by omega]; simp
    rw [e]
    exact Ev.step (fun k => by simp only [laws_toIntS.l0, c, ↓reduceIte] <;> rfl) (Ev.now _)
  | succ d ih =>
    intro j hj
    have c : (j : Int) < (l.length : Int) := by omega
    have c0 : 0 ≤ (j : Int) := by omega
    have c1 : (j : Int) < (((l.take j ++ List.replicate (l.length - j) 0).length : Nat) : Int) := by simp; omega
    have e1 : wrap64 ((j : Int) + 1) = ((j + 1 : Nat) : Int) := wj (by omega)
    exact Ev.step (fun k => by simp only [laws_toIntS.l0, c, c0, c1, ↓reduceIte]; rw [e1, Int.toNat_natCast, set_copy l j (by omega)]) (ih (j + 1) (by omega))
theorem ev_toIntS (l : List Int) (hl : l.length ≤ 1048576) : Ev (fun k => laws_toIntS.f k l) l := by
  have c0 : 0 ≤ (l.length : Int) := by omega
  have c1 : l.length ≤ 35184372088832 := by omega
  have := ev_toIntS_l0 l hl l.length 0 (by omega)
  simp only [List.take_zero, List.nil_append, Nat.sub_zero] at this
  simp only [laws_toIntS.f, c0, c1, Int.toNat_natCast, ↓reduceIte]
  exact this
theorem ev_eqIntS_l0 (l : List Int) (hl : l.length < 9223372036854775807) (d : Nat) : ∀ j : Nat, j + d = l.length → Ev (fun k => laws_eqIntS.l0 k l l (j : Int)) true := by
  induction d with
  | zero =>
    intro j hj
    have c : ¬ (j : Int) < (l.length : Int) := by omega
    exact Ev.step (fun k => by simp only [laws_eqIntS.l0, c, ↓reduceIte] <;> rfl) (Ev.now _)
  | succ d ih =>
    intro j hj
    have c : (j : Int) < (l.length : Int) := by omega
    have c0 : 0 ≤ (j : Int) := by omega
    have e1 : wrap64 ((j : Int) + 1) = ((j + 1 : Nat) : Int) := wj (by omega)
    exact Ev.step (fun k => by simp only [laws_eqIntS.l0, c, c0, e1, ↓reduceIte] <;> rfl) (ih (j + 1) (by omega))
/-- A list is equal to itself. -/
theorem ev_eqIntS (l : List Int) (hl : l.length < 9223372036854775807) : Ev (fun k => laws_eqIntS.f k l l) true := by
  simp only [laws_eqIntS.f, ↓reduceIte]
  exact ev_eqIntS_l0 l hl l.length 0 (by omega)
theorem both_IsSortableWithin (l : List Int) (d : Int) : ∃ r, Ev (fun k => spec_IsSortableWithin.f k l d) r ∧ Ev (fun k => impl_IsSortableWithin.f k l d) r := by
  obtain ⟨l1, l2⟩ := ev_limits d
  unfold spec_IsSortableWithin.f impl_IsSortableWithin.f
  cases ho : ordB l with
  | false =>
    refine ⟨(false, false), Ev.bind (ev_l2Order l) ?_, Ev.bind (ev_isOrder l) ?_⟩
    · rw [ho]
      simp only [Bool.false_eq_true, ↓reduceIte]
      exact Ev.now _
    · rw [ho]
      simp only [Bool.false_eq_true, ↓reduceIte]
      exact Ev.now _
  | true =>
    obtain ⟨h1, h7⟩ := ordB_len ho
    cases hd : (decide (1 ≤ d) && decide (d ≤ 7)) with
    | false =>
      refine ⟨(false, false), Ev.bind (ev_l2Order l) ?_, Ev.bind (ev_isOrder l) ?_⟩
      · rw [ho]
        simp only [l1, hd, Option.bind_some, Bool.false_eq_true, ↓reduceIte]
        exact Ev.now _
      · rw [ho]
        simp only [l2, hd, Option.bind_some, Bool.false_eq_true, ↓reduceIte]
        exact Ev.now _
    | true =>
      obtain ⟨w, b, x, e1, e2, e3⟩ := ev_limitOf l h1 h7
      refine ⟨(b && decide (x ≤ d), true), Ev.bind (ev_l2Order l) ?_, Ev.bind (ev_isOrder l) ?_⟩
      · rw [ho]
        simp only [l1, hd, Option.bind_some, ↓reduceIte]
        have hs : Ev (fun k => spec_l10Sorts.f k l d) (b && decide (x ≤ d)) := by
          unfold spec_l10Sorts.f
          refine Ev.bind e1 ?_
          cases b with
          | false =>
            simp only [Bool.false_eq_true, Bool.false_and, ↓reduceIte]
            exact Ev.now _
          | true =>
            simp only [Bool.true_and, ↓reduceIte]
            exact Ev.bind (e2 rfl) (Ev.now _)
        exact Ev.bind hs (Ev.now _)
      · rw [ho]
        simp only [l2, hd, Option.bind_some, ↓reduceIte]
        refine Ev.bind e3 ?_
        cases b with
        | false =>
          simp only [Bool.false_eq_true, Bool.false_and, ↓reduceIte]
          exact Ev.now _
        | true =>
          simp only [Bool.true_and, ↓reduceIte]
          exact Ev.now _
theorem FnExactIsSortableWithin : laws_FnExactIsSortableWithin.Pure := by
  intro l d _ _ _ _
  by_cases hl : (l.length : Int) > 1048576
  · exact ⟨0, by simp only [laws_FnExactIsSortableWithin.f, hl, ↓reduceIte]⟩
  · have hl' : l.length ≤ 1048576 := by omega
    obtain ⟨r, ⟨K1, h1⟩, ⟨K2, h2⟩⟩ := both_IsSortableWithin l d
    obtain ⟨K3, h3⟩ := ev_toIntS l hl'
    obtain ⟨K4, h4⟩ := ev_eqIntS l (by omega)
    dsimp only at h1 h2 h3 h4
    refine ⟨K1 + K2 + K3 + K4 + 10, ?_⟩
    simp only [laws_FnExactIsSortableWithin.f]
    repeat first
      | with_reducible rfl
      | (with_reducible refine bind_of (h1 _ (by omega)) ?_; try dsimp only)
      | (with_reducible refine bind_of (h2 _ (by omega)) ?_; try dsimp only)
      | (with_reducible refine bind_of (h3 _ (by omega)) ?_; try dsimp only)
      | (with_reducible refine bind_of (h4 _ (by omega)) ?_; try dsimp only)
      | rw [if_pos rfl]
      | rw [bne_self_eq_false]
      | rw [if_neg Bool.false_ne_true]
      | rw [if_neg hl]
      | simp only [laws_FnExactIsSortableWithin.j0]

end Go.Proofs.Ytppfobgmbjjdhaa.Pure
