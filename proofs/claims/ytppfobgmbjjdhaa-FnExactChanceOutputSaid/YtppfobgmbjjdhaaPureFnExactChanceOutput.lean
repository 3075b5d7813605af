/- ChanceOutput: the program and the reference tell the same chance of every list (of longer ones than 1048576 the law says nothing), and what came in stays as it was. -/
import Derived.Test.YtppfobgmbjjdhaaXo7
import Derived.Test.YtppfobgmbjjdhaaXoHoutput
import Derived.Test.YtppfobgmbjjdhaaXo4
import Derived.Test.YtppfobgmbjjdhaaXo6
import Derived.Test.YtppfobgmbjjdhaaXo5
import Derived.Test.YtppfobgmbjjdhaaXoHeq2
import Derived.Test.YtppfobgmbjjdhaaXo1
import Derived.Test.YtppfobgmbjjdhaaXo3
import Derived.Test.YtppfobgmbjjdhaaXo2
import Derived.Test.YtppfobgmbjjdhaaPk
set_option linter.unusedVariables false
set_option linter.unusedSimpArgs false
namespace Go.Proofs.Ytppfobgmbjjdhaa.Pure
open Go.RowKit Go.Proofs.Ytppfobgmbjjdhaa.Xo Go.Proofs.YtppfobgmbjjdhaaW.PrintWords Go.Proofs.YtppfobgmbjjdhaaW.PrintLast Go.Proofs.Ytppfobgmbjjdhaa.Pk

theorem ev_l1In' (a b c : Int) : spec_l1In.f a b c = some (decide (b ≤ a) && decide (a ≤ c)) := by
  unfold spec_l1In.f
  by_cases h : b ≤ a
  · rw [if_pos h, decide_eq_true h, Bool.true_and]
  · rw [if_neg h, decide_eq_false h, Bool.false_and]
/-! ### is a list an order? -/
theorem ev_l1Has_l0 (l : List Int) (x : Int) (hl : l.length < 9223372036854775807) (d : Nat) : ∀ j : Nat, j + d = l.length → Ev (fun k => spec_l1Has.l0 k l x (j : Int)) ((l.drop j).contains x) := by
  induction d with
  | zero =>
    intro j hj
    have c : ¬ (j : Int) < (l.length : Int) := by omega
    rw [List.drop_of_length_le (by omega)]
    exact Ev.step (fun k => by simp only [spec_l1Has.l0, c, ↓reduceIte] <;> rfl) (Ev.now _)
  | succ d ih =>
    intro j hj
    have c : (j : Int) < (l.length : Int) := by omega
    have c0 : 0 ≤ (j : Int) := by omega
    have e1 : wrap64 ((j : Int) + 1) = ((j + 1 : Nat) : Int) := wj (by omega)
    rw [rd_drop l j (by omega), List.contains_cons]
    by_cases h : rd l (j : Int) = x
    · have : (x == rd l (j : Int)) = true := by rw [h]; exact beq_self_eq_true x
      rw [this, Bool.true_or]
      exact Ev.step (fun k => by simp only [spec_l1Has.l0, c, c0, h, ↓reduceIte] <;> rfl) (Ev.now _)
    · have : (x == rd l (j : Int)) = false := beq_eq_false_iff_ne.2 (fun e => h e.symm)
      rw [this, Bool.false_or]
      exact Ev.step (fun k => by simp only [spec_l1Has.l0, c, c0, h, e1, ↓reduceIte]) (ih (j + 1) (by omega))
theorem ev_l1Has (l : List Int) (x : Int) (hl : l.length < 9223372036854775807) : Ev (fun k => spec_l1Has.f k l x) (l.contains x) := by
  have := ev_l1Has_l0 l x hl l.length 0 (by omega)
  rw [List.drop_zero] at this
  exact this
theorem ev_l2Order_l0 (l : List Int) (hl : l.length ≤ 7) (d : Nat) : ∀ j : Nat, j + d = l.length → Ev (fun k => spec_l2Order.l0 k l (j : Int)) (chk l.length (l.take j) (l.drop j)) := by
  induction d with
  | zero =>
    intro j hj
    have c : ¬ (j : Int) < (l.length : Int) := by omega
    rw [List.drop_of_length_le (by omega)]
    exact Ev.step (fun k => by simp only [spec_l2Order.l0, c, ↓reduceIte] <;> rfl) (Ev.now _)
  | succ d ih =>
    intro j hj
    have c : (j : Int) < (l.length : Int) := by omega
    have c0 : 0 ≤ (j : Int) := by omega
    have c1 : (j : Int) ≤ (l.length : Int) := by omega
    have e1 : wrap64 ((j : Int) + 1) = ((j + 1 : Nat) : Int) := wj (by omega)
    rw [rd_drop l j (by omega), chk, ← take_succ l j (by omega)]
    by_cases h : (decide (1 ≤ rd l (j : Int)) && decide (rd l (j : Int) ≤ (l.length : Int))) = true
    · rw [h, Bool.true_and]
      refine Ev.step (f := fun k => (spec_l1Has.f k (l.take j) (rd l (j : Int))).bind fun t => if t = true then some false else spec_l2Order.l0 k l ((j + 1 : Nat) : Int)) (fun k => by simp only [spec_l2Order.l0, c, c0, c1, ev_l1In', h, e1, Option.bind_some, Int.toNat_natCast, ↓reduceIte]) ?_
      refine Ev.bind (ev_l1Has (l.take j) _ (by rw [List.length_take]; omega)) ?_
      cases hc : (l.take j).contains (rd l (j : Int)) with
      | true =>
        simp only [↓reduceIte, Bool.not_true, Bool.false_and]
        exact Ev.now _
      | false =>
        simp only [Bool.false_eq_true, ↓reduceIte, Bool.not_false, Bool.true_and]
        exact ih (j + 1) (by omega)
    · have h' := Bool.eq_false_iff.2 h
      rw [h', Bool.false_and, Bool.false_and]
      exact Ev.step (fun k => by simp only [spec_l2Order.l0, c, c0, ev_l1In', h', Option.bind_some, Bool.false_eq_true, ↓reduceIte] <;> rfl) (Ev.now _)
theorem ev_l2Order (l : List Int) : Ev (fun k => spec_l2Order.f k l) (ordB l) := by
  unfold spec_l2Order.f ordB
  simp only [ev_l1In', Option.bind_some]
  by_cases h1 : 1 ≤ l.length
  · have g1 : (1 : Int) ≤ (l.length : Int) := by omega
    by_cases h7 : l.length ≤ 7
    · have g7 : (l.length : Int) ≤ 7 := by omega
      have := ev_l2Order_l0 l h7 l.length 0 (by omega)
      simp only [h1, h7, g1, g7, decide_true, Bool.and_true, Bool.true_and, ↓reduceIte]
      rw [List.take_zero, List.drop_zero] at this
      exact this
    · have g7 : ¬ (l.length : Int) ≤ 7 := by omega
      simp only [h7, g7, decide_false, Bool.and_false, Bool.false_and, Bool.false_eq_true, ↓reduceIte]
      exact Ev.now _
  · have g1 : ¬ (1 : Int) ≤ (l.length : Int) := by omega
    simp only [h1, g1, decide_false, Bool.false_and, Bool.false_eq_true, ↓reduceIte]
    exact Ev.now _
theorem ev_Index_l0 (l : List Int) (x : Int) (hl : l.length < 9223372036854775807) (d : Nat) : ∀ j : Nat, j + d = l.length → ∃ r : Int, Ev (fun k => slices_Index_int_int.l0 k l x (l.length : Int) (j : Int)) r ∧ decide (r ≥ 0) = (l.drop j).contains x := by
  induction d with
  | zero =>
    intro j hj
    have c : ¬ (j : Int) < (l.length : Int) := by omega
    rw [List.drop_of_length_le (by omega)]
    exact ⟨-1, Ev.step (fun k => by simp only [slices_Index_int_int.l0, c, ↓reduceIte] <;> rfl) (Ev.now _), rfl⟩
  | succ d ih =>
    intro j hj
    have c : (j : Int) < (l.length : Int) := by omega
    have c0 : 0 ≤ (j : Int) := by omega
    have e1 : wrap64 ((j : Int) + 1) = ((j + 1 : Nat) : Int) := wj (by omega)
    rw [rd_drop l j (by omega), List.contains_cons]
    by_cases h : x = rd l (j : Int)
    · have : (x == rd l (j : Int)) = true := beq_iff_eq.2 h
      rw [this, Bool.true_or]
      exact ⟨j, Ev.step (fun k => by simp only [slices_Index_int_int.l0, c, c0, ↓reduceIte]; rw [if_pos h]) (Ev.now _), by simp⟩
    · have : (x == rd l (j : Int)) = false := beq_eq_false_iff_ne.2 h
      rw [this, Bool.false_or]
      obtain ⟨r, hr, hd⟩ := ih (j + 1) (by omega)
      exact ⟨r, Ev.step (fun k => by simp only [slices_Index_int_int.l0, c, c0, h, e1, ↓reduceIte]) hr, hd⟩
theorem ev_Contains (l : List Int) (x : Int) (hl : l.length < 9223372036854775807) : Ev (fun k => slices_Contains_int_int.f k l x) (l.contains x) := by
  obtain ⟨r, hr, hd⟩ := ev_Index_l0 l x hl l.length 0 (by omega)
  rw [List.drop_zero] at hd
  unfold slices_Contains_int_int.f slices_Index_int_int.f
  refine Ev.bind hr ?_
  rw [hd]
  exact Ev.now _
theorem ev_isOrder_l0 (l : List Int) (hl : l.length ≤ 7) (d : Nat) : ∀ j : Nat, j + d = l.length → Ev (fun k => impl_isOrder.l0 k l l (l.length : Int) (j : Int)) (chk l.length (l.take j) (l.drop j)) := by
  induction d with
  | zero =>
    intro j hj
    have c : ¬ (j : Int) < (l.length : Int) := by omega
    rw [List.drop_of_length_le (by omega)]
    exact Ev.step (fun k => by simp only [impl_isOrder.l0, c, ↓reduceIte] <;> rfl) (Ev.now _)
  | succ d ih =>
    intro j hj
    have c : (j : Int) < (l.length : Int) := by omega
    have c0 : 0 ≤ (j : Int) := by omega
    have c1 : (j : Int) ≤ (l.length : Int) := by omega
    have e1 : wrap64 ((j : Int) + 1) = ((j + 1 : Nat) : Int) := wj (by omega)
    rw [rd_drop l j (by omega), chk, ← take_succ l j (by omega)]
    by_cases h1 : 1 ≤ rd l (j : Int)
    · have g1 : ¬ rd l (j : Int) < 1 := by omega
      by_cases h2 : rd l (j : Int) ≤ (l.length : Int)
      · have g2 : ¬ rd l (j : Int) > (l.length : Int) := by omega
        simp only [h1, h2, decide_true, Bool.true_and]
        refine Ev.step (f := fun k => (slices_Contains_int_int.f k (l.take j) (rd l (j : Int))).bind fun t => if t = true then some false else impl_isOrder.l0 k l l (l.length : Int) ((j + 1 : Nat) : Int)) (fun k => by simp only [impl_isOrder.l0, c, c0, c1, g1, g2, e1, Int.toNat_natCast, ↓reduceIte]) ?_
        refine Ev.bind (ev_Contains (l.take j) _ (by rw [List.length_take]; omega)) ?_
        cases hc : (l.take j).contains (rd l (j : Int)) with
        | true =>
          simp only [↓reduceIte, Bool.not_true, Bool.false_and]
          exact Ev.now _
        | false =>
          simp only [Bool.false_eq_true, ↓reduceIte, Bool.not_false, Bool.true_and]
          exact ih (j + 1) (by omega)
      · have g2 : rd l (j : Int) > (l.length : Int) := by omega
        simp only [h2, decide_false, Bool.and_false, Bool.false_and]
        exact Ev.step (fun k => by simp only [impl_isOrder.l0, c, c0, g1, g2, ↓reduceIte] <;> rfl) (Ev.now _)
    · have g1 : rd l (j : Int) < 1 := by omega
      simp only [h1, decide_false, Bool.false_and]
      exact Ev.step (fun k => by simp only [impl_isOrder.l0, c, c0, g1, ↓reduceIte] <;> rfl) (Ev.now _)
theorem ev_isOrder (l : List Int) : Ev (fun k => impl_isOrder.f k l) (ordB l) := by
  unfold impl_isOrder.f ordB
  by_cases h1 : 1 ≤ l.length
  · have g1 : ¬ (l.length : Int) < 1 := by omega
    by_cases h7 : l.length ≤ 7
    · have g7 : ¬ (l.length : Int) > 7 := by omega
      have := ev_isOrder_l0 l h7 l.length 0 (by omega)
      simp only [h1, h7, g1, g7, decide_true, decide_false, Bool.true_and, ↓reduceIte]
      refine Ev.step (fun k => by simp only [impl_isOrder.j0, Bool.false_eq_true, ↓reduceIte] <;> rfl) ?_
      rw [List.take_zero, List.drop_zero] at this
      exact this
    · have g7 : (l.length : Int) > 7 := by omega
      simp only [h7, g1, g7, decide_true, decide_false, Bool.and_false, Bool.false_and, ↓reduceIte]
      exact Ev.step (fun k => by simp only [impl_isOrder.j0, ↓reduceIte] <;> rfl) (Ev.now _)
  · have g1 : (l.length : Int) < 1 := by omega
    simp only [h1, g1, decide_false, Bool.false_and, ↓reduceIte]
    exact Ev.step (fun k => by simp only [impl_isOrder.j0, ↓reduceIte] <;> rfl) (Ev.now _)
/-! ### the sorted order -/
theorem iota_get (n i : Nat) (h : i < n) : rd (iota 1 n) (i : Int) = 1 + (i : Int) := rd_iota 1 n i h
theorem ev_l2Sorted (n : Nat) (hn : n ≤ 1000) : Ev (fun k => spec_l2Sorted.f k (n : Int)) (iota 1 n) := by
  have go : ∀ (m j : Nat), j + m = n → Ev (fun k => spec_l2Sorted.l0 k (n : Int) (iota 1 j) (1 + (j : Int))) (iota 1 n) := by
    intro m
    induction m with
    | zero =>
      intro j hj
      have c : ¬ 1 + (j : Int) ≤ (n : Int) := by omega
      obtain rfl : j = n := by omega
      exact Ev.step (f := fun _ => some (iota 1 j)) (fun k => by simp only [spec_l2Sorted.l0, c, ↓reduceIte]) (Ev.now _)
    | succ m ih =>
      intro j hj
      have c : 1 + (j : Int) ≤ (n : Int) := by omega
      have lim : (iota 1 j).length < 17592186044416 := by rw [iota_length]; omega
      have e := Aside0.mk (show wrap64 (1 + (j : Int) + 1) = 1 + ((j + 1 : Nat) : Int) from by rw [wr (by omega) (by omega)]; omega)
      refine Ev.step (fun k => ?_) (ih (j + 1) (by omega))
      simp only [spec_l2Sorted.l0, c, lim, e.out, ↓reduceIte]
      rw [iota_succ]
  have := go n 0 (by omega)
  exact this
/-! ### sorted orders -/
theorem ev_l1Same (a b : List Int) (ha : a.length ≤ 1000) : Ev (fun k => spec_l1Same.f k a b) (decide (a = b)) := by
  unfold spec_l1Same.f
  by_cases hl : a.length = b.length
  · have c : (a.length : Int) = (b.length : Int) := by omega
    simp only [c, ↓reduceIte]
    have go : ∀ (m j : Nat), j + m = a.length → Ev (fun k => spec_l1Same.l0 k a b (j : Int)) (decide (a.drop j = b.drop j)) := by
      intro m
      induction m with
      | zero =>
        intro j hj
        have c : ¬ (j : Int) < (a.length : Int) := by omega
        rw [List.drop_of_length_le (by omega), List.drop_of_length_le (by omega)]
        exact Ev.step (f := fun _ => some true) (fun k => by simp only [spec_l1Same.l0, c, ↓reduceIte]) (by simpa using Ev.now true)
      | succ m ih =>
        intro j hj
        have c : (j : Int) < (a.length : Int) := by omega
        have c0 : 0 ≤ (j : Int) := by omega
        have c1 : (j : Int) < (b.length : Int) := by omega
        have e := Aside0.mk (show wrap64 ((j : Int) + 1) = ((j + 1 : Nat) : Int) from wj (by omega))
        rw [rd_drop a j (by omega), rd_drop b j (by omega)]
        by_cases h : rd a (j : Int) = rd b (j : Int)
        · have hd : decide (rd a (j : Int) :: a.drop (j + 1) = rd b (j : Int) :: b.drop (j + 1)) = decide (a.drop (j + 1) = b.drop (j + 1)) := by simp [h]
          rw [hd]
          refine Ev.step (fun k => ?_) (ih (j + 1) (by omega))
          simp only [spec_l1Same.l0, c, c0, c1, e.out, ↓reduceIte]
          rw [if_pos h]
        · have hd : decide (rd a (j : Int) :: a.drop (j + 1) = rd b (j : Int) :: b.drop (j + 1)) = false := by simp [h]
          rw [hd]
          exact Ev.step (f := fun _ => some false) (fun k => by simp only [spec_l1Same.l0, c, c0, c1, h, ↓reduceIte]) (Ev.now _)
    have := go a.length 0 (by omega)
    exact this
  · have c : ¬ (a.length : Int) = (b.length : Int) := by omega
    simp only [c, ↓reduceIte]
    have : decide (a = b) = false := decide_eq_false (fun h => hl (by rw [h]))
    rw [this]
    exact Ev.now _
theorem ev_IsSorted (l : List Int) (hl : l.length ≤ 1000) (h1 : 1 ≤ l.length) : Ev (fun k => slices_IsSorted_int_int.f k l) (decide (∀ i : Nat, i < l.length - 1 → rd l (i : Int) ≤ rd l ((i + 1 : Nat) : Int))) := by
  have go : ∀ (m : Nat), m < l.length → Ev (fun k => slices_IsSorted_int_int.l0 k l (m : Int)) (decide (∀ i : Nat, i < m → rd l (i : Int) ≤ rd l ((i + 1 : Nat) : Int))) := by
    intro m
    induction m with
    | zero =>
      intro hm
      have c : ¬ ((0 : Nat) : Int) > 0 := by omega
      have hd : decide (∀ i : Nat, i < 0 → rd l (i : Int) ≤ rd l ((i + 1 : Nat) : Int)) = true := decide_eq_true (fun i hi => absurd hi (Nat.not_lt_zero i))
      rw [hd]
      exact Ev.step (f := fun _ => some true) (fun k => by simp only [slices_IsSorted_int_int.l0, c, ↓reduceIte]) (Ev.now _)
    | succ m ih =>
      intro hm
      have c : ((m + 1 : Nat) : Int) > 0 := by omega
      have c0 : 0 ≤ ((m + 1 : Nat) : Int) := by omega
      have c1 : ((m + 1 : Nat) : Int) < (l.length : Int) := by omega
      have e := Aside0.mk (show wrap64 (((m + 1 : Nat) : Int) - 1) = (m : Int) from by rw [wr (by omega) (by omega)]; omega)
      have d0 : 0 ≤ (m : Int) := by omega
      have d1 : (m : Int) < (l.length : Int) := by omega
      by_cases h : rd l ((m + 1 : Nat) : Int) < rd l (m : Int)
      · have hd : decide (∀ i : Nat, i < m + 1 → rd l (i : Int) ≤ rd l ((i + 1 : Nat) : Int)) = false := decide_eq_false (fun g => by have := g m (by omega); omega)
        rw [hd]
        refine Ev.step (f := fun _ => some false) (fun k => ?_) (Ev.now _)
        simp only [slices_IsSorted_int_int.l0, cmp_Less_int.f, cmp_isNaN_int.f, bne_self_eq_false, Option.bind_some, c, c0, c1, e.out, d0, d1, Bool.false_eq_true, ↓reduceIte]
        rw [if_pos (decide_eq_true h)]
      · have hd : decide (∀ i : Nat, i < m + 1 → rd l (i : Int) ≤ rd l ((i + 1 : Nat) : Int)) = decide (∀ i : Nat, i < m → rd l (i : Int) ≤ rd l ((i + 1 : Nat) : Int)) := by
          refine decide_eq_decide.2 ⟨fun g i hi => g i (by omega), fun g i hi => ?_⟩
          by_cases hm : i = m
          · subst hm; omega
          · exact g i (by omega)
        rw [hd]
        refine Ev.step (fun k => ?_) (ih (by omega))
        simp only [slices_IsSorted_int_int.l0, cmp_Less_int.f, cmp_isNaN_int.f, bne_self_eq_false, Option.bind_some, c, c0, c1, e.out, d0, d1, Bool.false_eq_true, ↓reduceIte]
        rw [if_neg (by simpa using h)]
  have e := Aside0.mk (show wrap64 ((l.length : Int) - 1) = ((l.length - 1 : Nat) : Int) from by rw [wr (by omega) (by omega)]; omega)
  unfold slices_IsSorted_int_int.f
  rw [e.out]
  exact go (l.length - 1) (by omega)
/-- Numbers from 1 to n, each once. -/
def OrdP (l : List Int) : Prop := l.Nodup ∧ ∀ x ∈ l, 1 ≤ x ∧ x ≤ (l.length : Int)
theorem ordB_P {l : List Int} (h : ordB l = true) : OrdP l := ⟨ordB_nodup h, ordB_range h⟩
theorem OrdP.perm {l m : List Int} (h : OrdP l) (p : m.Perm l) : OrdP m := ⟨p.symm.nodup h.1, fun x hx => by rw [p.length_eq]; exact h.2 x (p.mem_iff.1 hx)⟩
theorem rd_mem (l : List Int) (i : Nat) (h : i < l.length) : rd l (i : Int) ∈ l := by
  rw [rd_get l i h]
  exact List.getElem_mem h
theorem ordP_iota {l : List Int} (h : OrdP l) (adj : ∀ i : Nat, i < l.length - 1 → rd l (i : Int) ≤ rd l ((i + 1 : Nat) : Int)) : l = iota 1 l.length := by
  have adj' : ∀ i : Nat, i + 1 < l.length → rd l (i : Int) < rd l ((i + 1 : Nat) : Int) := by
    intro i hi
    have h1 := adj i (by omega)
    have h2 : rd l (i : Int) ≠ rd l ((i + 1 : Nat) : Int) := by
      rw [rd_get l i (by omega), rd_get l (i + 1) hi]
      exact (List.pairwise_iff_getElem.1 h.1) i (i + 1) (by omega) hi (by omega)
    omega
  have up : ∀ i : Nat, i < l.length → 1 + (i : Int) ≤ rd l (i : Int) := by
    intro i
    induction i with
    | zero =>
      intro hi
      have := (h.2 _ (rd_mem l 0 hi)).1
      simpa using this
    | succ i ih =>
      intro hi
      have := ih (by omega)
      have := adj' i hi
      omega
  have down : ∀ m : Nat, m < l.length → rd l ((l.length - 1 - m : Nat) : Int) ≤ (l.length : Int) - m := by
    intro m
    induction m with
    | zero =>
      intro hm
      have := (h.2 _ (rd_mem l (l.length - 1 - 0) (by omega))).2
      simpa using this
    | succ m ih =>
      intro hm
      have a := ih (by omega)
      have b := adj' (l.length - 1 - (m + 1)) (by omega)
      rw [show l.length - 1 - (m + 1) + 1 = l.length - 1 - m by omega] at b
      omega
  refine List.ext_getElem (by rw [iota_length]) ?_
  intro i h1 h2
  have a := up i h1
  have b := down (l.length - 1 - i) (by omega)
  rw [show l.length - 1 - (l.length - 1 - i) = i by omega] at b
  have e : rd (iota 1 l.length) (i : Int) = 1 + (i : Int) := rd_iota 1 l.length i h1
  rw [rd_get l i h1] at a b
  rw [rd_get _ i h2] at e
  rw [e]
  omega
theorem asc_iota {l : List Int} (h : OrdP l) (p : l.Pairwise (· < ·)) : l = iota 1 l.length := by
  refine ordP_iota h ?_
  intro i hi
  rw [rd_get l i (by omega), rd_get l (i + 1) (by omega)]
  exact Int.le_of_lt ((List.pairwise_iff_getElem.1 p) i (i + 1) (by omega) (by omega) (by omega))
theorem sorted_adj {l : List Int} (h : OrdP l) : decide (∀ i : Nat, i < l.length - 1 → rd l (i : Int) ≤ rd l ((i + 1 : Nat) : Int)) = decide (l = iota 1 l.length) := by
  refine decide_eq_decide.2 ⟨ordP_iota h, fun e i hi => ?_⟩
  rw [e, rd_iota 1 l.length i (by omega), rd_iota 1 l.length (i + 1) (by omega)]
  omega
/-! ### a word is run -/
/-- Behind signs: from numbers that are left, the stack (its top first) and what has come out. -/
def runL : List Int → List Int → List Int → List Int → Option (List Int)
  | [], _, _, out => some out
  | c :: t, rest, st, out => if c = 73 then (match rest with | [] => none | x :: r => runL t r (x :: st) out) else (match st with | [] => none | x :: s => runL t rest s (out ++ [x]))
theorem run_both (l : List Int) (w : ByteArray) (hl : l.length ≤ 1000) (hw : w.size ≤ 1048576) (n : Nat) : ∀ (j i : Nat) (st out r : List Int), j + n = w.size → i ≤ l.length → st.length + out.length ≤ i → runL ((bs w).drop j) (l.drop i) st.reverse out = some r →
    Ev (fun k => spec_l2Run.l0 k l w out st (i : Int) (j : Int)) r ∧ Ev (fun k => impl_runWord.l0 k (l.drop i) w st out (w.size : Int) (j : Int)) r := by
  induction n with
  | zero =>
    intro j i st out r hj hi hs h
    rw [bs_end w j (by omega)] at h
    simp only [runL, Option.some.injEq] at h
    subst h
    have c : ¬ (j : Int) < (w.size : Int) := by omega
    exact ⟨Ev.step (f := fun _ => some out) (fun k => by simp only [spec_l2Run.l0, c, ↓reduceIte]) (Ev.now _), Ev.step (f := fun _ => some out) (fun k => by simp only [impl_runWord.l0, c, ↓reduceIte]) (Ev.now _)⟩
  | succ n ih =>
    intro j i st out r hj hi hs h
    rw [bs_drop w j (by omega)] at h
    have c : (j : Int) < (w.size : Int) := by omega
    have c0 : 0 ≤ (j : Int) := by omega
    have ej := Aside0.mk (show wrap64 ((j : Int) + 1) = ((j + 1 : Nat) : Int) from wj (by omega))
    have c0i : 0 ≤ (i : Int) := by omega
    simp only [runL] at h
    by_cases hI : bt w (j : Int) = 73
    · rw [if_pos hI] at h
      by_cases hil : i < l.length
      · have ci : (i : Int) < (l.length : Int) := by omega
        have ei := Aside0.mk (show wrap64 ((i : Int) + 1) = ((i + 1 : Nat) : Int) from wj (by omega))
        rw [rd_drop l i hil] at h
        dsimp only at h
        obtain ⟨h1, h2⟩ := ih (j + 1) (i + 1) (st ++ [rd l (i : Int)]) out r (by omega) (by omega) (by simp; omega) (by rw [List.reverse_append, List.reverse_singleton, List.singleton_append]; exact h)
        have lim : st.length < 17592186044416 := by omega
        have g0 : 0 < ((l.drop i).length : Int) := by rw [List.length_drop]; omega
        have g1 : 1 ≤ ((l.drop i).length : Int) := by omega
        have e0 : rd (l.drop i) 0 = rd l (i : Int) := by rw [rd_drop l i hil]; rfl
        refine ⟨Ev.step (fun k => ?_) h1, Ev.step (fun k => ?_) h2⟩
        · simp only [spec_l2Run.l0, c, c0, hI, ci, c0i, lim, ei.out, ej.out, ↓reduceIte]
        · simp only [impl_runWord.l0, c, c0, hI, g0, g1, lim, e0, ej.out, List.drop_drop, ↓reduceIte]
      · rw [List.drop_of_length_le (by omega)] at h
        cases h
    · rw [if_neg hI] at h
      rcases snoc_cases st with rfl | ⟨st, x, rfl⟩
      · cases h
      · rw [show (st ++ [x]).reverse = x :: st.reverse by simp] at h
        dsimp only at h
        have hlen : (st ++ [x]).length = st.length + 1 := by simp
        rw [hlen] at hs
        obtain ⟨h1, h2⟩ := ih (j + 1) i st (out ++ [x]) r (by omega) hi (by simp; omega) h
        have et := Aside0.mk (show wrap64 (((st ++ [x]).length : Int) - 1) = (st.length : Int) from by rw [hlen, wr (by omega) (by omega)]; omega)
        have etop : rd (st ++ [x]) (st.length : Int) = x := by rw [rd_nat]; simp
        have t0 : 0 ≤ (st.length : Int) := by omega
        have t1 : (st.length : Int) < ((st ++ [x]).length : Int) := by rw [hlen]; omega
        have t2 : (st.length : Int) ≤ ((st ++ [x]).length : Int) := by rw [hlen]; omega
        have etake : (st ++ [x]).take ((st.length : Int)).toNat = st := by rw [Int.toNat_natCast]; simp
        have lim : out.length < 17592186044416 := by omega
        refine ⟨Ev.step (fun k => ?_) h1, Ev.step (fun k => ?_) h2⟩
        · simp only [spec_l2Run.l0, c, c0, hI, et.out, t0, t1, t2, etop, etake, lim, ej.out, ↓reduceIte]
        · simp only [impl_runWord.l0, c, c0, hI, et.out, t0, t1, t2, etop, etake, lim, ej.out, ↓reduceIte]
theorem ev_run (l : List Int) (w : ByteArray) (hl : l.length ≤ 1000) (hw : w.size ≤ 1048576) {r : List Int} (h : runL (bs w) l [] [] = some r) : Ev (fun k => spec_l2Run.f k l w) r ∧ Ev (fun k => impl_runWord.f k l w) r := by
  have := run_both l w hl hw w.size 0 0 [] [] r (by omega) (by omega) (by simp) (by rw [List.drop_zero, List.drop_zero]; exact h)
  rw [List.drop_zero] at this
  exact this
/-! ### texts out of numbers -/
theorem son_append (x y : List Int) : strOfNums (x ++ y) = strOfNums x ++ strOfNums y := by
  apply ByteArray.ext
  simp [strOfNums]
theorem son_79 : (⟨#[79]⟩ : ByteArray) = strOfNums [79] := rfl
theorem son_73 : (⟨#[73]⟩ : ByteArray) = strOfNums [73] := rfl
theorem son_size (x : List Int) : (strOfNums x).size = x.length := by simp [strOfNums, ByteArray.size]
theorem bs_son (x : List Int) (h : ∀ c ∈ x, c = 73 ∨ c = 79) : bs (strOfNums x) = x := by
  unfold bs strOfNums
  simp only [List.map_map]
  refine (List.map_congr_left ?_).trans (List.map_id x)
  intro c hc
  rcases h c hc with rfl | rfl <;> rfl
/-- How high the stack stands behind signs. -/
def hgt : List Int → Int → Option Int
  | [], h => some h
  | c :: t, h => if c = 73 then hgt t (h + 1) else if c = 79 then (if h - 1 < 0 then none else hgt t (h - 1)) else none
theorem hgt_append : ∀ (a b : List Int) (h : Int), hgt (a ++ b) h = (hgt a h).bind (hgt b)
  | [], b, h => rfl
  | c :: t, b, h => by
    simp only [List.cons_append, hgt]
    split
    · exact hgt_append t b _
    · split
      · split
        · rfl
        · exact hgt_append t b _
      · rfl
theorem hgt_byte : ∀ (l : List Int) (h r : Int), hgt l h = some r → ∀ c ∈ l, c = 73 ∨ c = 79
  | [], _, _, _ => by intro c hc; cases hc
  | x :: t, h, r, e => by
    intro c hc
    simp only [hgt] at e
    split at e
    · rcases List.mem_cons.1 hc with rfl | hc
      · exact .inl (by assumption)
      · exact hgt_byte t _ _ e c hc
    · split at e
      · split at e
        · cases e
        · rcases List.mem_cons.1 hc with rfl | hc
          · exact .inr (by assumption)
          · exact hgt_byte t _ _ e c hc
      · cases e
/-! ### words that go on: t signs are left, i of them pushes and o of them pops -/
def wl : Nat → Nat → Nat → List (List Int)
  | 0, _, _ => [[]]
  | t + 1, i, o => (if 0 < i then (wl t (i - 1) o).map (fun c => 73 :: c) else []) ++ (if i < o then (wl t i (o - 1)).map (fun c => 79 :: c) else [])
theorem wl_len : ∀ t i o, (wl t i o).length ≤ 2 ^ t
  | 0, _, _ => by simp [wl]
  | t + 1, i, o => by
    have a := wl_len t (i - 1) o
    have b := wl_len t i (o - 1)
    simp only [wl, List.length_append]
    have : 2 ^ (t + 1) = 2 ^ t + 2 ^ t := by rw [Nat.pow_succ]; omega
    split <;> split <;> simp only [List.length_map, List.length_nil] <;> omega
theorem wl_word : ∀ t i o, i + o = t → i ≤ o → ∀ c ∈ wl t i o, c.length = t ∧ (∀ x ∈ c, x = 73 ∨ x = 79) ∧ hgt c ((o : Int) - (i : Int)) = some 0
  | 0, i, o, ht, _, c, hc => by
    obtain ⟨rfl, rfl⟩ : i = 0 ∧ o = 0 := by omega
    obtain rfl : c = [] := by simpa [wl] using hc
    exact ⟨rfl, by simp, rfl⟩
  | t + 1, i, o, ht, hio, c, hc => by
    simp only [wl, List.mem_append] at hc
    rcases hc with hc | hc
    · by_cases h : 0 < i
      · rw [if_pos h] at hc
        obtain ⟨c', hc', rfl⟩ := List.mem_map.1 hc
        obtain ⟨a1, a2, a3⟩ := wl_word t (i - 1) o (by omega) (by omega) c' hc'
        refine ⟨by simp [a1], ?_, ?_⟩
        · intro x hx
          rcases List.mem_cons.1 hx with rfl | hx
          · exact .inl rfl
          · exact a2 x hx
        · have e : ((o : Int) - ((i - 1 : Nat) : Int)) = (o : Int) - (i : Int) + 1 := by omega
          rw [e] at a3
          simp only [hgt, ↓reduceIte]
          exact a3
      · rw [if_neg h] at hc
        cases hc
    · by_cases h : i < o
      · rw [if_pos h] at hc
        obtain ⟨c', hc', rfl⟩ := List.mem_map.1 hc
        obtain ⟨a1, a2, a3⟩ := wl_word t i (o - 1) (by omega) (by omega) c' hc'
        refine ⟨by simp [a1], ?_, ?_⟩
        · intro x hx
          rcases List.mem_cons.1 hx with rfl | hx
          · exact .inr rfl
          · exact a2 x hx
        · have e : (((o - 1 : Nat) : Int) - (i : Int)) = (o : Int) - (i : Int) - 1 := by omega
          rw [e] at a3
          rw [hgt, if_neg (by decide), if_pos rfl, if_neg (by omega)]
          exact a3
      · rw [if_neg h] at hc
        cases hc
theorem wl_ne : ∀ t i o, i + o = t → i ≤ o → wl t i o ≠ []
  | 0, _, _, _, _ => by simp [wl]
  | t + 1, i, o, ht, hio => by
    simp only [wl]
    by_cases h : 0 < i
    · rw [if_pos h]
      have := wl_ne t (i - 1) o (by omega) (by omega)
      intro e
      rw [List.append_eq_nil_iff] at e
      exact this (List.map_eq_nil_iff.1 e.1)
    · rw [if_neg h, if_pos (show i < o by omega), List.nil_append]
      have := wl_ne t i (o - 1) (by omega) (by omega)
      intro e
      exact this (List.map_eq_nil_iff.1 e)
theorem ev_words : ∀ (t i o : Nat) (done : List Int) (l : List ByteArray), i + o = t → i ≤ o → done.length + t ≤ 1000 → l.length + 2 ^ t ≤ 8796093022207 →
    Ev (fun k => impl_words.f k (strOfNums done) (i : Int) (o : Int) l) (l ++ (wl t i o).map (fun c => strOfNums (done ++ c)))
  | 0, i, o, done, l, ht, _, _, hl => by
    obtain ⟨rfl, rfl⟩ : i = 0 ∧ o = 0 := by omega
    have c : l.length < 8796093022208 := by omega
    refine Ev.step (f := fun k => impl_words.j0 k (strOfNums done) 0 0 l true) (fun k => by simp only [impl_words.f]; rfl) ?_
    refine Ev.step (f := fun _ => some (l ++ [strOfNums done])) (fun k => by simp only [impl_words.j0, c, ↓reduceIte]) ?_
    have e : (wl 0 0 0).map (fun c => strOfNums (done ++ c)) = [strOfNums done] := by simp [wl]
    rw [e]
    exact Ev.now _
  | t + 1, i, o, done, l, ht, hio, hdone, hl => by
    have hpow : 2 ^ (t + 1) = 2 ^ t + 2 ^ t := by rw [Nat.pow_succ]; omega
    have hp0 : 0 < 2 ^ t := Nat.two_pow_pos t
    have so : (strOfNums done).size + 1 ≤ 9223372036854775807 := by rw [son_size]; omega
    have f0 : ∀ k, impl_words.f (k + 1) (strOfNums done) (i : Int) (o : Int) l = impl_words.j0 k (strOfNums done) (i : Int) (o : Int) l false := by
      intro k
      simp only [impl_words.f]
      by_cases h : (i : Int) = 0
      · rw [if_pos h]
        have : ((o : Int) == 0) = false := beq_eq_false_iff_ne.2 (by omega)
        rw [this]
      · rw [if_neg h]
    refine Ev.step f0 ?_
    have e73 : strOfNums done ++ (⟨#[73]⟩ : ByteArray) = strOfNums (done ++ [73]) := by rw [son_append, ← son_73]
    have e79 : strOfNums done ++ (⟨#[79]⟩ : ByteArray) = strOfNums (done ++ [79]) := by rw [son_append, ← son_79]
    have m73 : ∀ x : List (List Int), (x.map (fun c => (73 : Int) :: c)).map (fun c => strOfNums (done ++ c)) = x.map (fun c => strOfNums (done ++ [73] ++ c)) := by
      intro x
      rw [List.map_map]
      refine List.map_congr_left fun c _ => ?_
      simp
    have m79 : ∀ x : List (List Int), (x.map (fun c => (79 : Int) :: c)).map (fun c => strOfNums (done ++ c)) = x.map (fun c => strOfNums (done ++ [79] ++ c)) := by
      intro x
      rw [List.map_map]
      refine List.map_congr_left fun c _ => ?_
      simp
    have ei : Aside0 (0 < i → wrap64 ((i : Int) - 1) = ((i - 1 : Nat) : Int)) := ⟨fun h => by rw [wr (by omega) (by omega)]; omega⟩
    have eo : Aside0 (i < o → wrap64 ((o : Int) - 1) = ((o - 1 : Nat) : Int)) := ⟨fun h => by rw [wr (by omega) (by omega)]; omega⟩
    by_cases hi : 0 < i
    · have gi : (i : Int) > 0 := by omega
      have h1 := ev_words t (i - 1) o (done ++ [73]) l (by omega) (by omega) (by simp; omega) (by omega)
      have b1 := wl_len t (i - 1) o
      by_cases ho : i < o
      · have go : (o : Int) > (i : Int) := by omega
        have h2 := ev_words t i (o - 1) (done ++ [79]) (l ++ (wl t (i - 1) o).map (fun c => strOfNums (done ++ [73] ++ c))) (by omega) (by omega) (by simp; omega) (by rw [List.length_append, List.length_map]; omega)
        have e : (wl (t + 1) i o).map (fun c => strOfNums (done ++ c)) = (wl t (i - 1) o).map (fun c => strOfNums (done ++ [73] ++ c)) ++ (wl t i (o - 1)).map (fun c => strOfNums (done ++ [79] ++ c)) := by
          simp only [wl]
          rw [if_pos hi, if_pos ho, List.map_append, m73, m79]
        rw [e, ← List.append_assoc]
        refine Ev.step (f := fun k => (impl_words.f k (strOfNums (done ++ [73])) ((i - 1 : Nat) : Int) (o : Int) l).bind fun t232 => (impl_words.f k (strOfNums (done ++ [79])) (i : Int) ((o - 1 : Nat) : Int) t232).bind fun t235 => some t235) (fun k => ?_) (Ev.bind h1 (Ev.bind h2 (Ev.now _)))
        simp only [impl_words.j0, gi, go, so, ei.out hi, eo.out ho, e73, e79, Bool.false_eq_true, ↓reduceIte]
      · have go : ¬ (o : Int) > (i : Int) := by omega
        have e : (wl (t + 1) i o).map (fun c => strOfNums (done ++ c)) = (wl t (i - 1) o).map (fun c => strOfNums (done ++ [73] ++ c)) := by
          simp only [wl]
          rw [if_pos hi, if_neg ho, List.append_nil, m73]
        rw [e]
        refine Ev.step (f := fun k => (impl_words.f k (strOfNums (done ++ [73])) ((i - 1 : Nat) : Int) (o : Int) l).bind fun t232 => some t232) (fun k => ?_) (Ev.bind h1 (Ev.now _))
        simp only [impl_words.j0, gi, go, so, ei.out hi, e73, Bool.false_eq_true, ↓reduceIte]
    · have gi : ¬ (i : Int) > 0 := by omega
      have ho : i < o := by omega
      have go : (o : Int) > (i : Int) := by omega
      have h2 := ev_words t i (o - 1) (done ++ [79]) l (by omega) (by omega) (by simp; omega) (by omega)
      have e : (wl (t + 1) i o).map (fun c => strOfNums (done ++ c)) = (wl t i (o - 1)).map (fun c => strOfNums (done ++ [79] ++ c)) := by
        simp only [wl]
        rw [if_neg hi, if_pos ho, List.nil_append, m79]
      rw [e]
      refine Ev.step (f := fun k => (impl_words.f k (strOfNums (done ++ [79])) (i : Int) ((o - 1 : Nat) : Int) l).bind fun t238 => some t238) (fun k => ?_) (Ev.bind h2 (Ev.now _))
      simp only [impl_words.j0, gi, go, so, eo.out ho, e79, Bool.false_eq_true, ↓reduceIte]
/-! ### fractions -/
theorem ev_frac (a b : Int) (ha : 0 ≤ a) (ha2 : a ≤ 9223372036854775807) (hb : 0 < b) (hb2 : b ≤ 9223372036854775807) : ∃ r : Int × Int, Ev (fun k => impl_fraction.f k a b) r ∧ Ev (fun k => spec_l9Cut.f k a b) r := by
  have go : ∀ (m : Nat) (x y : Int), 0 ≤ x → 0 ≤ y → x ≤ 9223372036854775807 → y ≤ 9223372036854775807 → y ≤ m → 0 < x + y → ∃ r : Int × Int, Ev (fun k => impl_fraction.l0 k a b x y) r ∧ Ev (fun k => spec_l9Cut.l0 k a b x y) r := by
    intro m
    induction m with
    | zero =>
      intro x y hx hy hxm hyM hym hs
      obtain rfl : y = 0 := by omega
      have n0 : ¬ x = 0 := by omega
      have n1 : ¬ (0 : Int) > 0 := by omega
      have hm : spec_l1Most.f x 1 = some x := by
        unfold spec_l1Most.f
        by_cases h : x > 1
        · rw [if_pos h]
        · rw [if_neg h]; congr 1; omega
      refine ⟨(wrap64 (Int.tdiv a x), wrap64 (Int.tdiv b x)), ?_, ?_⟩
      · exact Ev.step (f := fun _ => some (wrap64 (Int.tdiv a x), wrap64 (Int.tdiv b x))) (fun k => by simp only [impl_fraction.l0, n0, ↓reduceIte]) (Ev.now _)
      · exact Ev.step (f := fun _ => some (wrap64 (Int.tdiv a x), wrap64 (Int.tdiv b x))) (fun k => by simp only [spec_l9Cut.l0, n1, n0, hm, Option.bind_some, ↓reduceIte]) (Ev.now _)
    | succ m ih =>
      intro x y hx hy hxm hyM hym hs
      by_cases h0 : y = 0
      · subst h0
        have n0 : ¬ x = 0 := by omega
        have n1 : ¬ (0 : Int) > 0 := by omega
        have hm : spec_l1Most.f x 1 = some x := by
          unfold spec_l1Most.f
          by_cases h : x > 1
          · rw [if_pos h]
          · rw [if_neg h]; congr 1; omega
        refine ⟨(wrap64 (Int.tdiv a x), wrap64 (Int.tdiv b x)), ?_, ?_⟩
        · exact Ev.step (f := fun _ => some (wrap64 (Int.tdiv a x), wrap64 (Int.tdiv b x))) (fun k => by simp only [impl_fraction.l0, n0, ↓reduceIte]) (Ev.now _)
        · exact Ev.step (f := fun _ => some (wrap64 (Int.tdiv a x), wrap64 (Int.tdiv b x))) (fun k => by simp only [spec_l9Cut.l0, n1, n0, hm, Option.bind_some, ↓reduceIte]) (Ev.now _)
      · have hy0 : y > 0 := by omega
        have e : Int.tmod x y = x % y := Int.tmod_eq_emod_of_nonneg hx
        have h1 := Int.emod_nonneg x h0
        have h2 := Int.emod_lt_of_pos x hy0
        obtain ⟨r, r1, r2⟩ := ih y (Int.tmod x y) hy (by rw [e]; exact h1) hyM (by rw [e]; omega) (by rw [e]; omega) (by rw [e]; omega)
        exact ⟨r, Ev.step (fun k => by simp only [impl_fraction.l0, h0, ↓reduceIte]) r1, Ev.step (fun k => by simp only [spec_l9Cut.l0, hy0, h0, ↓reduceIte]) r2⟩
  obtain ⟨r, r1, r2⟩ := go b.toNat a b ha (by omega) ha2 hb2 (by omega) (by omega)
  exact ⟨r, r1, r2⟩
theorem ev_eqA2 (a b : Int) : laws_eqIntA2.f a b a b = some true := by
  unfold laws_eqIntA2.f
  simp
theorem ev_l9Size (n : Int) : spec_l9Size.f n = some (decide (1 ≤ n) && decide (n ≤ 6)) := by
  unfold spec_l9Size.f
  rw [ev_l1In', Option.bind_some]
/-! ### copies of lists, lists compared -/
theorem ev_toIntS_l0 (l : List Int) (hl : l.length ≤ 1048576) (d : Nat) : ∀ j : Nat, j + d = l.length → Ev (fun k => laws_toIntS.l0 k l (l.take j ++ List.replicate (l.length - j) 0) (j : Int)) l := by
  induction d with
  | zero =>
    intro j hj
    have c : ¬ (j : Int) < (l.length : Int) := by omega
    have e : l.take j ++ List.replicate (l.length - j) 0 = l := by rw [List.take_of_length_le (by omega), show l.length - j = 0 by omega]; simp
    rw [e]
    exact Ev.step (fun k => by simp only [laws_toIntS.l0, c, ↓reduceIte] <;> rfl) (Ev.now _)
  | succ d ih =>
    intro j hj
    have c : (j : Int) < (l.length : Int) := by omega
    have c0 : 0 ≤ (j : Int) := by omega
    have c1 : (j : Int) < (((l.take j ++ List.replicate (l.length - j) 0).length : Nat) : Int) := by simp; omega
    have e1 : wrap64 ((j : Int) + 1) = ((j + 1 : Nat) : Int) := wj (by omega)
    exact Ev.step (fun k => by simp only [laws_toIntS.l0, c, c0, c1, ↓reduceIte]; rw [e1, Int.toNat_natCast, set_copy l j (by omega)]) (ih (j + 1) (by omega))
theorem ev_toIntS (l : List Int) (hl : l.length ≤ 1048576) : Ev (fun k => laws_toIntS.f k l) l := by
  have c0 : 0 ≤ (l.length : Int) := by omega
  have c1 : l.length ≤ 35184372088832 := by omega
  have := ev_toIntS_l0 l hl l.length 0 (by omega)
  simp only [List.take_zero, List.nil_append, Nat.sub_zero] at this
  simp only [laws_toIntS.f, c0, c1, Int.toNat_natCast, ↓reduceIte]
  exact this
theorem ev_eqIntS_l0 (l : List Int) (hl : l.length < 9223372036854775807) (d : Nat) : ∀ j : Nat, j + d = l.length → Ev (fun k => laws_eqIntS.l0 k l l (j : Int)) true := by
  induction d with
  | zero =>
    intro j hj
    have c : ¬ (j : Int) < (l.length : Int) := by omega
    exact Ev.step (fun k => by simp only [laws_eqIntS.l0, c, ↓reduceIte] <;> rfl) (Ev.now _)
  | succ d ih =>
    intro j hj
    have c : (j : Int) < (l.length : Int) := by omega
    have c0 : 0 ≤ (j : Int) := by omega
    have e1 : wrap64 ((j : Int) + 1) = ((j + 1 : Nat) : Int) := wj (by omega)
    exact Ev.step (fun k => by simp only [laws_eqIntS.l0, c, c0, e1, ↓reduceIte] <;> rfl) (ih (j + 1) (by omega))
/-- A list is equal to itself. -/
theorem ev_eqIntS (l : List Int) (hl : l.length < 9223372036854775807) : Ev (fun k => laws_eqIntS.f k l l) true := by
  simp only [laws_eqIntS.f, ↓reduceIte]
  exact ev_eqIntS_l0 l hl l.length 0 (by omega)
theorem ev_isSorted (l : List Int) (hl : l.length ≤ 7) (h1 : 1 ≤ l.length) (h : OrdP l) : Ev (fun k => impl_isSorted.f k l) (decide (l = iota 1 l.length)) := by
  unfold impl_isSorted.f
  rw [← sorted_adj h]
  exact Ev.bind (ev_IsSorted l (by omega) h1) (Ev.now _)
theorem ev_l2Words (n : Nat) (h1 : 1 ≤ n) (h6 : n ≤ 6) : Ev (fun k => spec_l2Words.f k (⟨#[]⟩ : ByteArray) 0 (n : Int)) ((wl (n + n) n n).map strOfNums) := by
  have hn : n = 1 ∨ n = 2 ∨ n = 3 ∨ n = 4 ∨ n = 5 ∨ n = 6 := by omega
  rcases hn with rfl | rfl | rfl | rfl | rfl | rfl <;> exact Ev.of (fun k => spec_l2Words.mono _ _ _ k) (k := 20) (by decide +kernel)
theorem hgt_ge : ∀ (t : List Int) (h r : Int), hgt t h = some r → h - r ≤ (t.length : Int)
  | [], h, r, e => by simp only [hgt, Option.some.injEq] at e; simp; omega
  | c :: t, h, r, e => by
    simp only [hgt] at e
    rw [List.length_cons]
    split at e
    · have := hgt_ge t _ _ e; omega
    · split at e
      · split at e
        · cases e
        · have := hgt_ge t _ _ e; omega
      · cases e
theorem run_ok : ∀ (w rest st out : List Int), (∀ x ∈ w, x = 73 ∨ x = 79) → hgt w (st.length : Int) = some 0 → w.length = st.length + 2 * rest.length → ∃ r, runL w rest st out = some r ∧ r.Perm (out ++ st ++ rest)
  | [], rest, st, out, _, hh, hl => by
    simp only [hgt, Option.some.injEq] at hh
    obtain rfl : st = [] := List.length_eq_zero_iff.1 (by omega)
    obtain rfl : rest = [] := List.length_eq_zero_iff.1 (by simp at hl; omega)
    exact ⟨out, rfl, by simp⟩
  | c :: t, rest, st, out, hc, hh, hl => by
    rw [List.length_cons] at hl
    have hct : ∀ x ∈ t, x = 73 ∨ x = 79 := fun x hx => hc x (List.mem_cons_of_mem _ hx)
    rcases hc c List.mem_cons_self with rfl | rfl
    · simp only [hgt, ↓reduceIte] at hh
      cases rest with
      | nil =>
        have := hgt_ge t _ _ hh
        simp at hl
        omega
      | cons x r =>
        obtain ⟨o, h1, h2⟩ := run_ok t r (x :: st) out hct (by rw [List.length_cons]; exact_mod_cast hh) (by rw [List.length_cons] at hl ⊢; omega)
        refine ⟨o, by simp only [runL, ↓reduceIte]; exact h1, h2.trans ?_⟩
        refine List.perm_iff_count.2 fun a => ?_
        simp only [List.count_append, List.count_cons]
        omega
    · simp only [hgt, show ¬ ((79 : Int) = 73) by decide, ↓reduceIte] at hh
      cases st with
      | nil => simp at hh
      | cons x s =>
        have hnn : ¬ (((x :: s).length : Int) - 1 < 0) := by rw [List.length_cons]; omega
        rw [if_neg hnn] at hh
        obtain ⟨o, h1, h2⟩ := run_ok t rest s (out ++ [x]) hct (by rw [List.length_cons] at hh; rw [show ((s.length + 1 : Nat) : Int) - 1 = (s.length : Int) by omega] at hh; exact hh) (by rw [List.length_cons] at hl; omega)
        refine ⟨o, by simp only [runL, show ¬ ((79 : Int) = 73) by decide, ↓reduceIte]; exact h1, h2.trans ?_⟩
        refine List.perm_iff_count.2 fun a => ?_
        simp only [List.count_append, List.count_cons, List.count_nil]
        omega
def outV (l c : List Int) : Int := match runL c l [] [] with | some r => if r = iota 1 l.length then 1 else 0 | none => 0
theorem outV_bound (l c : List Int) : 0 ≤ outV l c ∧ outV l c ≤ 1 := by
  unfold outV
  split
  · split <;> decide
  · decide
theorem wl_run {l : List Int} (hl : l.length ≤ 7) {c : List Int} (hc : c ∈ wl (l.length + l.length) l.length l.length) : (∀ x ∈ c, x = 73 ∨ x = 79) ∧ (strOfNums c).size ≤ 20 ∧ ∃ r, runL c l [] [] = some r ∧ r.Perm l := by
  obtain ⟨a1, a2, a3⟩ := wl_word _ _ _ rfl (Nat.le_refl _) c hc
  refine ⟨a2, by rw [son_size]; omega, ?_⟩
  obtain ⟨r, h1, h2⟩ := run_ok c l [] [] a2 (by simpa using a3) (by simp; omega)
  exact ⟨r, h1, by simpa using h2⟩
theorem ev_outF {l : List Int} (h : ordB l = true) {c : List Int} (hc : c ∈ wl (l.length + l.length) l.length l.length) : Ev (fun k => outF k l (strOfNums c)) (outV l c) := by
  obtain ⟨g1, g7⟩ := ordB_len h
  obtain ⟨a2, hsz, r, hr, hp⟩ := wl_run g7 hc
  have hb : runL (bs (strOfNums c)) l [] [] = some r := by rw [bs_son c a2]; exact hr
  have e := (ev_run l (strOfNums c) (by omega) (by omega) hb).2
  unfold outF outV
  rw [hr]
  refine Ev.bind e ?_
  have hlen : r.length = l.length := hp.length_eq
  refine Ev.bind (ev_isSorted r (by omega) (by omega) ((ordB_P h).perm hp)) ?_
  rw [hlen]
  by_cases hq : r = iota 1 l.length
  · simp only [hq, decide_true, ↓reduceIte]
    exact Ev.now _
  · simp only [hq, decide_false, Bool.false_eq_true, ↓reduceIte]
    exact Ev.now _
def cn (G : List Int → Int) : List (List Int) → Int → Int
  | [], s => s
  | c :: t, s => cn G t (s + G c)
theorem cn_bound (G : List Int → Int) (hG : ∀ c, 0 ≤ G c ∧ G c ≤ 1) : ∀ L s, s ≤ cn G L s ∧ cn G L s ≤ s + (L.length : Int)
  | [], s => by simp [cn]
  | c :: t, s => by
    have a := cn_bound G hG t (s + G c)
    have b := hG c
    simp only [cn, List.length_cons]
    omega
theorem ev_sumW (F : Nat → ByteArray → Option Int) (G : List Int → Int) (hG : ∀ c, 0 ≤ G c ∧ G c ≤ 1) : ∀ (L : List (List Int)) (s : Int), (∀ c ∈ L, Ev (fun k => F k (strOfNums c)) (G c)) → 0 ≤ s → s + (L.length : Int) ≤ 100000 → Ev (fun k => sumW (F k) (L.map strOfNums) s) (cn G L s)
  | [], s, _, _, _ => Ev.now _
  | c :: t, s, h, h0, hs => by
    rw [List.length_cons] at hs
    have b := hG c
    simp only [List.map_cons, sumW, cn]
    refine Ev.bind (h c List.mem_cons_self) ?_
    rw [wr (by omega) (by omega)]
    exact ev_sumW F G hG t _ (fun x hx => h x (List.mem_cons_of_mem _ hx)) (by omega) (by omega)
theorem ev_specOut {l : List Int} (h : ordB l = true) (L : List (List Int)) (hLen : L.length ≤ 100000) (hL : ∀ c ∈ L, c ∈ wl (l.length + l.length) l.length l.length) (r : Int × Int) (T : Int) (hr : Ev (fun k => spec_l9Cut.f k T (L.length : Int)) r) : ∀ (d j : Nat) (s : Int), j + d = L.length → 0 ≤ s → s + (d : Int) ≤ 100000 → cn (outV l) (L.drop j) s = T → Ev (fun k => spec_ChanceOutput.l0 k l s (L.map strOfNums) (j : Int)) (r.1, r.2, true)
  | 0, j, s, hj, h0, hs, hT => by
    have c : ¬ (j : Int) < ((L.map strOfNums).length : Int) := by rw [List.length_map]; omega
    rw [List.drop_of_length_le (by omega)] at hT
    obtain rfl : s = T := hT
    refine Ev.step (f := fun k => (spec_l9Cut.f k s ((L.map strOfNums).length : Int)).bind fun bt174 => (some (bt174.1, bt174.2, true))) (fun k => by simp only [spec_ChanceOutput.l0, c, ↓reduceIte]) ?_
    rw [List.length_map]
    exact Ev.bind hr (Ev.now _)
  | d + 1, j, s, hj, h0, hs, hT => by
    obtain ⟨g1, g7⟩ := ordB_len h
    have hj' : j < L.length := by omega
    have c : (j : Int) < ((L.map strOfNums).length : Int) := by rw [List.length_map]; omega
    have c0 : 0 ≤ (j : Int) := by omega
    have hb0 := (L.drop j).length
    have hmem := hL _ (List.getElem_mem hj')
    obtain ⟨a2, hsz, q, hq, hp⟩ := wl_run g7 hmem
    have e1 : rdOf ByteArray.empty (L.map strOfNums) (j : Int) = strOfNums (L[j]'hj') := by unfold rdOf; rw [Int.toNat_natCast]; simp [hj']
    have e2 := Aside0.mk (show wrap64 ((j : Int) + 1) = ((j + 1 : Nat) : Int) from wj (by omega))
    rw [List.drop_eq_getElem_cons hj'] at hT
    simp only [cn] at hT
    have hob := outV_bound l (L[j]'hj')
    have hb : runL (bs (strOfNums (L[j]'hj'))) l [] [] = some q := by rw [bs_son _ a2]; exact hq
    have hrun := (ev_run l (strOfNums (L[j]'hj')) (by omega) (by omega) hb).1
    have hlen : q.length = l.length := hp.length_eq
    have ew : wrap64 (s + 1) = s + 1 := wr (by omega) (by omega)
    refine Ev.step (f := fun k => (spec_l2Run.f k l (strOfNums (L[j]'hj'))).bind fun t177 => ((spec_l2Sorted.f k (l.length : Int)).bind fun t180 => ((spec_l1Same.f k t177 t180).bind fun t183 => (if t183 = true then (spec_ChanceOutput.l0 k l (s + 1) (L.map strOfNums) ((j + 1 : Nat) : Int)) else (spec_ChanceOutput.l0 k l s (L.map strOfNums) ((j + 1 : Nat) : Int)))))) (fun k => by simp only [spec_ChanceOutput.l0, c, c0, e1, e2.out, ew, ↓reduceIte]) ?_
    refine Ev.bind hrun (Ev.bind (ev_l2Sorted l.length (by omega)) (Ev.bind (ev_l1Same q _ (by omega)) ?_))
    have hov : outV l (L[j]'hj') = if q = iota 1 l.length then 1 else 0 := by unfold outV; rw [hq]
    by_cases he : q = iota 1 l.length
    · rw [hov, if_pos he] at hT
      simp only [he, decide_true, ↓reduceIte]
      exact ev_specOut h L hLen hL r T hr d (j + 1) (s + 1) (by omega) (by omega) (by omega) hT
    · rw [hov, if_neg he, Int.add_zero] at hT
      simp only [he, decide_false, Bool.false_eq_true, ↓reduceIte]
      exact ev_specOut h L hLen hL r T hr d (j + 1) s (by omega) (by omega) (by omega) hT
theorem both_ChanceOutput (l : List Int) : ∃ r, Ev (fun k => spec_ChanceOutput.f k l) r ∧ Ev (fun k => impl_ChanceOutput.f k l) r := by
  unfold spec_ChanceOutput.f impl_ChanceOutput.f
  have no : ∀ (n : Int) (F : Nat → ByteArray → Option Int) (b : Bool), ((decide (1 ≤ n) && decide (n ≤ 6)) && b) = false → Ev (fun k => wmeanF k (F k) n b) (0, 0, false) := by
    intro n F b h
    refine ⟨0, fun k _ => ?_⟩
    show wmeanF k (F k) n b = _
    unfold wmeanF impl_isDrawn.f
    by_cases h1 : n ≥ 1
    · rw [if_pos h1, Option.bind_some]
      rw [decide_eq_true h1, Bool.true_and] at h
      rw [h]
      rfl
    · rw [if_neg h1, Option.bind_some, Bool.false_and]
      rfl
  cases ho : ordB l with
  | false =>
    refine ⟨(0, 0, false), ?_, ?_⟩
    · refine Ev.bind (ev_l2Order l) ?_
      rw [ho]
      simp only [Bool.false_eq_true, ↓reduceIte]
      exact Ev.step (f := fun _ => some (0, 0, false)) (fun k => by simp only [spec_ChanceOutput.j0, ↓reduceIte]) (Ev.now _)
    · refine Ev.bind (ev_isOrder l) ?_
      rw [ho]
      exact no _ (fun k => outF k l) _ (by rw [Bool.and_false])
  | true =>
    obtain ⟨g1, g7⟩ := ordB_len ho
    by_cases h6 : l.length ≤ 6
    · have hLl := wl_len (l.length + l.length) l.length l.length
      have hpow : 2 ^ (l.length + l.length) ≤ 2 ^ 12 := Nat.pow_le_pow_right (by decide) (by omega)
      have e12 : 2 ^ 12 = 4096 := by decide
      have hne := wl_ne (l.length + l.length) l.length l.length rfl (Nat.le_refl _)
      have hW := ev_words (l.length + l.length) l.length l.length [] [] rfl (Nat.le_refl _) (by simp; omega) (by simp; omega)
      have hS := ev_l2Words l.length g1 h6
      have hm : ∀ c ∈ wl (l.length + l.length) l.length l.length, Ev (fun k => outF k l (strOfNums c)) (outV l c) := fun c hc => ev_outF ho hc
      have hLm : ∀ c ∈ wl (l.length + l.length) l.length l.length, c ∈ wl (l.length + l.length) l.length l.length := fun c hc => hc
      have hOut := ev_specOut ho (wl (l.length + l.length) l.length l.length) (by omega) hLm
      simp only [List.nil_append] at hW
      rw [show strOfNums ([] : List Int) = (⟨#[]⟩ : ByteArray) from rfl] at hW
      generalize wl (l.length + l.length) l.length l.length = L at hLl hne hW hS hm hOut
      have hpos : 0 < L.length := List.length_pos_iff.2 hne
      have hb := cn_bound (outV l) (outV_bound l) L 0
      obtain ⟨r, hrI, hrS⟩ := ev_frac (cn (outV l) L 0) (L.length : Int) (by omega) (by omega) (by omega) (by omega)
      refine ⟨(r.1, r.2, true), ?_, ?_⟩
      · refine Ev.bind (ev_l2Order l) ?_
        rw [ho]
        have c1 : decide ((1 : Int) ≤ (l.length : Int)) = true := decide_eq_true (by omega)
        have c2 : decide ((l.length : Int) ≤ 6) = true := decide_eq_true (by omega)
        simp only [↓reduceIte, ev_l9Size, c1, c2, Bool.and_true, Option.bind_some, Bool.not_true]
        refine Ev.step (f := fun k => (spec_l2Words.f k (⟨#[]⟩ : ByteArray) 0 (l.length : Int)).bind fun t171 => (spec_ChanceOutput.l0 k l 0 t171 0)) (fun k => by simp only [spec_ChanceOutput.j0, Bool.false_eq_true, ↓reduceIte]) ?_
        refine Ev.bind hS ?_
        exact hOut r _ hrS L.length 0 0 (by omega) (by omega) (by omega) (by rw [List.drop_zero])
      · refine Ev.bind (ev_isOrder l) ?_
        rw [ho]
        unfold wmeanF impl_isDrawn.f
        have c1 : (l.length : Int) ≥ 1 := by omega
        have c2 : decide ((l.length : Int) ≤ 6) = true := decide_eq_true (by omega)
        simp only [c1, c2, ↓reduceIte, Option.bind_some, Bool.and_true]
        refine Ev.bind hW ?_
        have hc : (0 < (L.map strOfNums).length ∧ (L.map strOfNums).length < 1000000) = True := eq_true (by rw [List.length_map]; exact ⟨hpos, by omega⟩)
        simp only [hc, ↓reduceIte]
        refine Ev.bind (ev_sumW (fun k => outF k l) (outV l) (outV_bound l) L 0 hm (by omega) (by omega)) ?_
        rw [List.length_map]
        exact Ev.bind hrI (Ev.now _)
    · have c2 : decide ((l.length : Int) ≤ 6) = false := decide_eq_false (by omega)
      refine ⟨(0, 0, false), ?_, ?_⟩
      · refine Ev.bind (ev_l2Order l) ?_
        rw [ho]
        simp only [↓reduceIte, ev_l9Size, c2, Bool.and_false, Option.bind_some, Bool.not_false]
        exact Ev.step (f := fun _ => some (0, 0, false)) (fun k => by simp only [spec_ChanceOutput.j0, ↓reduceIte]) (Ev.now _)
      · refine Ev.bind (ev_isOrder l) ?_
        exact no _ (fun k => outF k l) _ (by rw [c2, Bool.and_false, Bool.false_and])
theorem FnExactChanceOutput : laws_FnExactChanceOutput.Pure := by
  intro l _ _ _
  by_cases hl : (l.length : Int) > 1048576
  · exact ⟨0, by simp only [laws_FnExactChanceOutput.f, hl, ↓reduceIte]⟩
  · refine Ev.rounds (g := fun k => laws_FnExactChanceOutput.f k l) ?_
    simp only [laws_FnExactChanceOutput.f, hl, ↓reduceIte]
    have t := ev_toIntS l (by omega)
    obtain ⟨⟨r1, r2, r3⟩, a, b⟩ := both_ChanceOutput l
    refine Ev.bind t (Ev.bind a (Ev.bind t (Ev.bind b ?_)))
    simp only [bne_self_eq_false, ev_eqA2, Option.bind_some, ↓reduceIte]
    refine Ev.step (f := fun k => (laws_toIntS.f k l).bind fun t185 => ((laws_eqIntS.f k l t185).bind fun t188 => (if t188 = true then (some true) else (some false)))) (fun k => by simp only [laws_FnExactChanceOutput.j0, Bool.false_eq_true, ↓reduceIte]) ?_
    refine Ev.bind t (Ev.bind (ev_eqIntS l (by omega)) ?_)
    simp only [↓reduceIte]
    exact Ev.now _

end Go.Proofs.Ytppfobgmbjjdhaa.Pure
