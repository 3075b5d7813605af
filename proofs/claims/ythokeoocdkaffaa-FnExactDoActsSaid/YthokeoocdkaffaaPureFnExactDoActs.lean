/- DoActs: the program and the reference tell the same of every yard and list of acts. -/
import Derived.Test.YthokeoocdkaffaaXlHdos
import Derived.Test.YthokeoocdkaffaaXl8
import Derived.Test.YthokeoocdkaffaaXl9
import Derived.Test.YthokeoocdkaffaaXl4
import Derived.Test.YthokeoocdkaffaaXlHeqy
import Derived.Test.YthokeoocdkaffaaXlHtoy
import Derived.Test.YthokeoocdkaffaaXlHgood
import Derived.Test.YthokeoocdkaffaaXlHparts
import Derived.Test.YthokeoocdkaffaaXlHarr7
import Derived.Test.YthokeoocdkaffaaXlHpart
import Derived.Test.YthokeoocdkaffaaXl1
import Derived.Test.YthokeoocdkaffaaXl3
import Derived.Test.YthokeoocdkaffaaXl5
import Derived.Test.YthokeoocdkaffaaXl7
import Derived.Test.YthokeoocdkaffaaXl6
import Derived.Test.YthokeoocdkaffaaXlHdelete
import Derived.Test.YthokeoocdkaffaaXl2
import Derived.Test.YthokeoocdkaffaaPk
import Derived.OneCell
import Derived.Shelf.Abstract
import Derived.Outline
import Derived.Deep.RegionHeld3
import Derived.BigQuiet
import Derived.Deep.QuietTactic
import Derived.RegionTactic
import Derived.BigRegion
set_option linter.unusedVariables false
set_option linter.unusedSimpArgs false
namespace Go.Proofs.Ythokeoocdkaffaa.Pure
open Go.RowKit Go.Proofs.Ythokeoocdkaffaa.Xl Go.Proofs.YthokeoocdkaffaaW.PrintWords Go.Proofs.YthokeoocdkaffaaW.PrintLast Go.Proofs.Ythokeoocdkaffaa.Pk

theorem ev_l1In' (a b c : Int) : spec_l1In.f a b c = some (decide (b ≤ a) && decide (a ≤ c)) := by
  unfold spec_l1In.f
  by_cases h : b ≤ a
  · rw [if_pos h, decide_eq_true h, Bool.true_and]
  · rw [if_neg h, decide_eq_false h, Bool.false_and]
/-! ### is a list an order? -/
theorem ev_l1Has_l0 (l : List Int) (x : Int) (hl : l.length < 9223372036854775807) (d : Nat) : ∀ j : Nat, j + d = l.length → Ev (fun k => spec_l1Has.l0 k l x (j : Int)) ((l.drop j).contains x) := by
  induction d with
  | zero =>
    intro j hj
    have c : ¬ (j : Int) < (l.length : Int) := by omega
    rw [List.drop_of_length_le (by omega)]
    exact Ev.step (fun k => by simp only [spec_l1Has.l0, c, ↓reduceIte] <;> rfl) (Ev.now _)
  | succ d ih =>
    intro j hj
    have c : (j : Int) < (l.length : Int) := by omega
    have c0 : 0 ≤ (j : Int) := by omega
    have e1 : wrap64 ((j : Int) + 1) = ((j + 1 : Nat) : Int) := wj (by omega)
    rw [rd_drop l j (by omega), List.contains_cons]
    by_cases h : rd l (j : Int) = x
    · have : (x == rd l (j : Int)) = true := by rw [h]; exact beq_self_eq_true x
      rw [this, Bool.true_or]
      exact Ev.step (fun k => by simp only [spec_l1Has.l0, c, c0, h, ↓reduceIte] <;> rfl) (Ev.now _)
    · have : (x == rd l (j : Int)) = false := beq_eq_false_iff_ne.2 (fun e => h e.symm)
      rw [this, Bool.false_or]
      exact Ev.step (fun k => by simp only [spec_l1Has.l0, c, c0, h, e1, ↓reduceIte]) (ih (j + 1) (by omega))
theorem ev_l1Has (l : List Int) (x : Int) (hl : l.length < 9223372036854775807) : Ev (fun k => spec_l1Has.f k l x) (l.contains x) := by
  have := ev_l1Has_l0 l x hl l.length 0 (by omega)
  rw [List.drop_zero] at this
  exact this
theorem ev_l2Order_l0 (l : List Int) (hl : l.length ≤ 7) (d : Nat) : ∀ j : Nat, j + d = l.length → Ev (fun k => spec_l2Order.l0 k l (j : Int)) (chk l.length (l.take j) (l.drop j)) := by
  induction d with
  | zero =>
    intro j hj
    have c : ¬ (j : Int) < (l.length : Int) := by omega
    rw [List.drop_of_length_le (by omega)]
    exact Ev.step (fun k => by simp only [spec_l2Order.l0, c, ↓reduceIte] <;> rfl) (Ev.now _)
  | succ d ih =>
    intro j hj
    have c : (j : Int) < (l.length : Int) := by omega
    have c0 : 0 ≤ (j : Int) := by omega
    have c1 : (j : Int) ≤ (l.length : Int) := by omega
    have e1 : wrap64 ((j : Int) + 1) = ((j + 1 : Nat) : Int) := wj (by omega)
    rw [rd_drop l j (by omega), chk, ← take_succ l j (by omega)]
    by_cases h : (decide (1 ≤ rd l (j : Int)) && decide (rd l (j : Int) ≤ (l.length : Int))) = true
    · rw [h, Bool.true_and]
      refine Ev.step (f := fun k => (spec_l1Has.f k (l.take j) (rd l (j : Int))).bind fun t => if t = true then some false else spec_l2Order.l0 k l ((j + 1 : Nat) : Int)) (fun k => by simp only [spec_l2Order.l0, c, c0, c1, ev_l1In', h, e1, Option.bind_some, Int.toNat_natCast, ↓reduceIte]) ?_
      refine Ev.bind (ev_l1Has (l.take j) _ (by rw [List.length_take]; omega)) ?_
      cases hc : (l.take j).contains (rd l (j : Int)) with
      | true =>
        simp only [↓reduceIte, Bool.not_true, Bool.false_and]
        exact Ev.now _
      | false =>
        simp only [Bool.false_eq_true, ↓reduceIte, Bool.not_false, Bool.true_and]
        exact ih (j + 1) (by omega)
    · have h' := Bool.eq_false_iff.2 h
      rw [h', Bool.false_and, Bool.false_and]
      exact Ev.step (fun k => by simp only [spec_l2Order.l0, c, c0, ev_l1In', h', Option.bind_some, Bool.false_eq_true, ↓reduceIte] <;> rfl) (Ev.now _)
theorem ev_l2Order (l : List Int) : Ev (fun k => spec_l2Order.f k l) (ordB l) := by
  unfold spec_l2Order.f ordB
  simp only [ev_l1In', Option.bind_some]
  by_cases h1 : 1 ≤ l.length
  · have g1 : (1 : Int) ≤ (l.length : Int) := by omega
    by_cases h7 : l.length ≤ 7
    · have g7 : (l.length : Int) ≤ 7 := by omega
      have := ev_l2Order_l0 l h7 l.length 0 (by omega)
      simp only [h1, h7, g1, g7, decide_true, Bool.and_true, Bool.true_and, ↓reduceIte]
      rw [List.take_zero, List.drop_zero] at this
      exact this
    · have g7 : ¬ (l.length : Int) ≤ 7 := by omega
      simp only [h7, g7, decide_false, Bool.and_false, Bool.false_and, Bool.false_eq_true, ↓reduceIte]
      exact Ev.now _
  · have g1 : ¬ (1 : Int) ≤ (l.length : Int) := by omega
    simp only [h1, g1, decide_false, Bool.false_and, Bool.false_eq_true, ↓reduceIte]
    exact Ev.now _
theorem ev_Index_l0 (l : List Int) (x : Int) (hl : l.length < 9223372036854775807) (d : Nat) : ∀ j : Nat, j + d = l.length → ∃ r : Int, Ev (fun k => slices_Index_int_int.l0 k l x (l.length : Int) (j : Int)) r ∧ decide (r ≥ 0) = (l.drop j).contains x := by
  induction d with
  | zero =>
    intro j hj
    have c : ¬ (j : Int) < (l.length : Int) := by omega
    rw [List.drop_of_length_le (by omega)]
    exact ⟨-1, Ev.step (fun k => by simp only [slices_Index_int_int.l0, c, ↓reduceIte] <;> rfl) (Ev.now _), rfl⟩
  | succ d ih =>
    intro j hj
    have c : (j : Int) < (l.length : Int) := by omega
    have c0 : 0 ≤ (j : Int) := by omega
    have e1 : wrap64 ((j : Int) + 1) = ((j + 1 : Nat) : Int) := wj (by omega)
    rw [rd_drop l j (by omega), List.contains_cons]
    by_cases h : x = rd l (j : Int)
    · have : (x == rd l (j : Int)) = true := beq_iff_eq.2 h
      rw [this, Bool.true_or]
      exact ⟨j, Ev.step (fun k => by simp only [slices_Index_int_int.l0, c, c0, ↓reduceIte]; rw [if_pos h]) (Ev.now _), by simp⟩
    · have : (x == rd l (j : Int)) = false := beq_eq_false_iff_ne.2 h
      rw [this, Bool.false_or]
      obtain ⟨r, hr, hd⟩ := ih (j + 1) (by omega)
      exact ⟨r, Ev.step (fun k => by simp only [slices_Index_int_int.l0, c, c0, h, e1, ↓reduceIte]) hr, hd⟩
theorem ev_Contains (l : List Int) (x : Int) (hl : l.length < 9223372036854775807) : Ev (fun k => slices_Contains_int_int.f k l x) (l.contains x) := by
  obtain ⟨r, hr, hd⟩ := ev_Index_l0 l x hl l.length 0 (by omega)
  rw [List.drop_zero] at hd
  unfold slices_Contains_int_int.f slices_Index_int_int.f
  refine Ev.bind hr ?_
  rw [hd]
  exact Ev.now _
theorem ev_isOrder_l0 (l : List Int) (hl : l.length ≤ 7) (d : Nat) : ∀ j : Nat, j + d = l.length → Ev (fun k => impl_isOrder.l0 k l l (l.length : Int) (j : Int)) (chk l.length (l.take j) (l.drop j)) := by
  induction d with
  | zero =>
    intro j hj
    have c : ¬ (j : Int) < (l.length : Int) := by omega
    rw [List.drop_of_length_le (by omega)]
    exact Ev.step (fun k => by simp only [impl_isOrder.l0, c, ↓reduceIte] <;> rfl) (Ev.now _)
  | succ d ih =>
    intro j hj
    have c : (j : Int) < (l.length : Int) := by omega
    have c0 : 0 ≤ (j : Int) := by omega
    have c1 : (j : Int) ≤ (l.length : Int) := by omega
    have e1 : wrap64 ((j : Int) + 1) = ((j + 1 : Nat) : Int) := wj (by omega)
    rw [rd_drop l j (by omega), chk, ← take_succ l j (by omega)]
    by_cases h1 : 1 ≤ rd l (j : Int)
    · have g1 : ¬ rd l (j : Int) < 1 := by omega
      by_cases h2 : rd l (j : Int) ≤ (l.length : Int)
      · have g2 : ¬ rd l (j : Int) > (l.length : Int) := by omega
        simp only [h1, h2, decide_true, Bool.true_and]
        refine Ev.step (f := fun k => (slices_Contains_int_int.f k (l.take j) (rd l (j : Int))).bind fun t => if t = true then some false else impl_isOrder.l0 k l l (l.length : Int) ((j + 1 : Nat) : Int)) (fun k => by simp only [impl_isOrder.l0, c, c0, c1, g1, g2, e1, Int.toNat_natCast, ↓reduceIte]) ?_
        refine Ev.bind (ev_Contains (l.take j) _ (by rw [List.length_take]; omega)) ?_
        cases hc : (l.take j).contains (rd l (j : Int)) with
        | true =>
          simp only [↓reduceIte, Bool.not_true, Bool.false_and]
          exact Ev.now _
        | false =>
          simp only [Bool.false_eq_true, ↓reduceIte, Bool.not_false, Bool.true_and]
          exact ih (j + 1) (by omega)
      · have g2 : rd l (j : Int) > (l.length : Int) := by omega
        simp only [h2, decide_false, Bool.and_false, Bool.false_and]
        exact Ev.step (fun k => by simp only [impl_isOrder.l0, c, c0, g1, g2, ↓reduceIte] <;> rfl) (Ev.now _)
    · have g1 : rd l (j : Int) < 1 := by omega
      simp only [h1, decide_false, Bool.false_and]
      exact Ev.step (fun k => by simp only [impl_isOrder.l0, c, c0, g1, ↓reduceIte] <;> rfl) (Ev.now _)
theorem ev_isOrder (l : List Int) : Ev (fun k => impl_isOrder.f k l) (ordB l) := by
  unfold impl_isOrder.f ordB
  by_cases h1 : 1 ≤ l.length
  · have g1 : ¬ (l.length : Int) < 1 := by omega
    by_cases h7 : l.length ≤ 7
    · have g7 : ¬ (l.length : Int) > 7 := by omega
      have := ev_isOrder_l0 l h7 l.length 0 (by omega)
      simp only [h1, h7, g1, g7, decide_true, decide_false, Bool.true_and, ↓reduceIte]
      refine Ev.step (fun k => by simp only [impl_isOrder.j0, Bool.false_eq_true, ↓reduceIte] <;> rfl) ?_
      rw [List.take_zero, List.drop_zero] at this
      exact this
    · have g7 : (l.length : Int) > 7 := by omega
      simp only [h7, g1, g7, decide_true, decide_false, Bool.and_false, Bool.false_and, ↓reduceIte]
      exact Ev.step (fun k => by simp only [impl_isOrder.j0, ↓reduceIte] <;> rfl) (Ev.now _)
  · have g1 : (l.length : Int) < 1 := by omega
    simp only [h1, g1, decide_false, Bool.false_and, ↓reduceIte]
    exact Ev.step (fun k => by simp only [impl_isOrder.j0, ↓reduceIte] <;> rfl) (Ev.now _)
/-! ### the sorted order -/
theorem iota_get (n i : Nat) (h : i < n) : rd (iota 1 n) (i : Int) = 1 + (i : Int) := rd_iota 1 n i h
theorem ev_l2Sorted (n : Nat) (hn : n ≤ 1000) : Ev (fun k => spec_l2Sorted.f k (n : Int)) (iota 1 n) := by
  have go : ∀ (m j : Nat), j + m = n → Ev (fun k => spec_l2Sorted.l0 k (n : Int) (iota 1 j) (1 + (j : Int))) (iota 1 n) := by
    intro m
    induction m with
    | zero =>
      intro j hj
      have c : ¬ 1 + (j : Int) ≤ (n : Int) := by omega
      obtain rfl : j = n := by omega
      exact Ev.step (f := fun _ => some (iota 1 j)) (fun k => by simp only [spec_l2Sorted.l0, c, ↓reduceIte]) (Ev.now _)
    | succ m ih =>
      intro j hj
      have c : 1 + (j : Int) ≤ (n : Int) := by omega
      have lim : (iota 1 j).length < 17592186044416 := by rw [iota_length]; omega
      have e := Aside0.mk (show wrap64 (1 + (j : Int) + 1) = 1 + ((j + 1 : Nat) : Int) from by rw [wr (by omega) (by omega)]; omega)
      refine Ev.step (fun k => ?_) (ih (j + 1) (by omega))
      simp only [spec_l2Sorted.l0, c, lim, e.out, ↓reduceIte]
      rw [iota_succ]
  have := go n 0 (by omega)
  exact this
theorem ev_sorted (n : Nat) (hn : n ≤ 1000) : Ev (fun k => impl_sorted.f k (n : Int)) (iota 1 n) := by
  have go : ∀ (m j : Nat), j + m = n → Ev (fun k => impl_sorted.l0 k (iota 1 j) (n : Int) (j : Int)) (iota 1 n) := by
    intro m
    induction m with
    | zero =>
      intro j hj
      have c : ¬ (j : Int) < (n : Int) := by omega
      obtain rfl : j = n := by omega
      exact Ev.step (f := fun _ => some (iota 1 j)) (fun k => by simp only [impl_sorted.l0, c, ↓reduceIte]) (Ev.now _)
    | succ m ih =>
      intro j hj
      have c : (j : Int) < (n : Int) := by omega
      have lim : (iota 1 j).length < 17592186044416 := by rw [iota_length]; omega
      have e := Aside0.mk (show wrap64 ((j : Int) + 1) = ((j + 1 : Nat) : Int) from wj (by omega))
      refine Ev.step (fun k => ?_) (ih (j + 1) (by omega))
      simp only [impl_sorted.l0, c, lim, e.out, ↓reduceIte]
      rw [iota_succ, show (1 : Int) + (j : Int) = ((j + 1 : Nat) : Int) by omega]
  exact go n 0 (by omega)
/-! ### all orders of so many numbers -/
def fct : Nat → Nat
  | 0 => 1
  | n + 1 => (n + 1) * fct n
theorem fct_pos : ∀ n, 0 < fct n
  | 0 => by decide
  | n + 1 => Nat.mul_pos (by omega) (fct_pos n)
theorem ev_factorial (m : Nat) (h : m ≤ 7) : Ev (fun k => impl_factorial.f k (m : Int)) (fct m : Int) := by
  have hm : m = 0 ∨ m = 1 ∨ m = 2 ∨ m = 3 ∨ m = 4 ∨ m = 5 ∨ m = 6 ∨ m = 7 := by omega
  rcases hm with rfl | rfl | rfl | rfl | rfl | rfl | rfl | rfl <;> exact Ev.of (fun k => impl_factorial.mono _ k) (k := 20) (by decide +kernel)
theorem fct_le : ∀ m, m ≤ 7 → fct m ≤ 5040 := by
  intro m h
  have hm : m = 0 ∨ m = 1 ∨ m = 2 ∨ m = 3 ∨ m = 4 ∨ m = 5 ∨ m = 6 ∨ m = 7 := by omega
  rcases hm with rfl | rfl | rfl | rfl | rfl | rfl | rfl | rfl <;> decide
/-- The order with a rank, out of the numbers that are left. -/
def unr : Nat → List Int → Nat → List Int
  | 0, _, _ => []
  | m + 1, left, k => rd left ((k / fct m : Nat) : Int) :: unr m (left.eraseIdx (k / fct m)) (k % fct m)
theorem unr_len : ∀ m left k, (unr m left k).length = m
  | 0, _, _ => rfl
  | m + 1, left, k => by rw [unr, List.length_cons, unr_len m]
theorem unr_perm : ∀ (m : Nat) (left : List Int) (k : Nat), left.length = m → k < fct m → (unr m left k).Perm left
  | 0, left, k, hl, _ => by
    obtain rfl := List.eq_nil_of_length_eq_zero hl
    exact List.Perm.refl _
  | m + 1, left, k, hl, hk => by
    have hq : k / fct m < left.length := by
      rw [hl]
      exact Nat.div_lt_of_lt_mul (by rw [Nat.mul_comm]; exact hk)
    have ih := unr_perm m (left.eraseIdx (k / fct m)) (k % fct m) (by rw [List.length_eraseIdx_of_lt hq]; omega) (Nat.mod_lt _ (fct_pos m))
    rw [unr, rd_get left _ hq]
    refine (List.Perm.cons _ ih).trans ?_
    rw [List.eraseIdx_eq_take_drop_succ]
    have h1 : left = left.take (k / fct m) ++ left[k / fct m] :: left.drop (k / fct m + 1) := by
      rw [← List.drop_eq_getElem_cons hq, List.take_append_drop]
    exact (List.perm_middle.symm.trans (by rw [← h1]))
theorem ev_orderAt0 : ∀ (m : Nat) (left out : List Int) (k : Nat), left.length = m → m ≤ 7 → k < fct m → out.length + m ≤ 100 → Ev (fun K => impl_orderAt.l0 K (m + 1) (k : Int) left out) (out ++ unr m left k)
  | 0, left, out, k, hl, _, _, _ => by
    have c : ¬ 0 < left.length := by omega
    rw [unr, List.append_nil]
    exact Ev.congr (f := fun _ => some out) (fun K => by simp only [impl_orderAt.l0, c, ↓reduceIte]) (Ev.now _)
  | m + 1, left, out, k, hl, hm, hk, ho => by
    have c : 0 < left.length := by omega
    have hq : k / fct m < left.length := by
      rw [hl]
      exact Nat.div_lt_of_lt_mul (by rw [Nat.mul_comm]; exact hk)
    have hkb := fct_le (m + 1) hm
    have hp := fct_pos m
    have hdk : k / fct m ≤ k := Nat.div_le_self _ _
    obtain ⟨q, hqe⟩ : ∃ q : Nat, q = k / fct m := ⟨_, rfl⟩
    rw [← hqe] at hq hdk
    have HQE := Aside0.mk hqe
    clear hqe
    have e1 := Aside0.mk (show wrap64 ((left.length : Int) - 1) = (m : Int) from by rw [wr (by omega) (by omega)]; omega)
    have e2 := Aside0.mk (show wrap64 (Int.tdiv (k : Int) (fct m : Int)) = (q : Int) from by rw [← Int.ofNat_tdiv, ← HQE.out, wr (by omega) (by omega)])
    have e3 := Aside0.mk (show Int.tmod (k : Int) (fct m : Int) = ((k % fct m : Nat) : Int) from (Int.ofNat_tmod _ _).symm)
    have n0 : ¬ (fct m : Int) = 0 := by omega
    have c2 : 0 ≤ (q : Int) ∧ (q : Int) < (left.length : Int) ∧ out.length < 1000 := ⟨by omega, by omega, by omega⟩
    have ih := ev_orderAt0 m (left.eraseIdx q) (out ++ [rd left (q : Int)]) (k % fct m) (by rw [List.length_eraseIdx_of_lt hq]; omega) (by omega) (Nat.mod_lt _ hp) (by rw [List.length_append, List.length_singleton]; omega)
    rw [unr, ← HQE.out, List.append_cons]
    refine Ev.congr (f := fun K => (impl_factorial.f K (m : Int)).bind fun p => if p = 0 then none else if 0 ≤ wrap64 (Int.tdiv (k : Int) p) ∧ wrap64 (Int.tdiv (k : Int) p) < (left.length : Int) ∧ out.length < 1000 then impl_orderAt.l0 K (m + 1) (Int.tmod (k : Int) p) (left.eraseIdx (wrap64 (Int.tdiv (k : Int) p)).toNat) (out ++ [rd left (wrap64 (Int.tdiv (k : Int) p))]) else none) (fun K => ?_) (Ev.bind (ev_factorial m (by omega)) ?_)
    · rw [impl_orderAt.l0, if_pos c, e1.out]
    · simp only [if_neg n0, e2.out, e3.out, if_pos c2, Int.toNat_natCast]
      exact ih
theorem ev_orderAt (n k : Nat) (h1 : 1 ≤ n) (h7 : n ≤ 7) (hk : k < fct n) : Ev (fun K => impl_orderAt.f K (n : Int) (k : Int)) (unr n (iota 1 n) k) := by
  unfold impl_orderAt.f
  refine Ev.bind (ev_sorted n (by omega)) ?_
  have c : 0 < (iota 1 n).length := by rw [iota_length]; omega
  simp only [if_pos c]
  have := ev_orderAt0 n (iota 1 n) [] k (iota_length _ _) h7 hk (by simp; omega)
  rw [List.nil_append] at this
  rw [iota_length]
  exact this
theorem ev_l2Ways (m : Nat) (h : m ≤ 7) : Ev (fun k => spec_l2Ways.f k (m : Int)) (fct m : Int) := by
  have hm : m = 0 ∨ m = 1 ∨ m = 2 ∨ m = 3 ∨ m = 4 ∨ m = 5 ∨ m = 6 ∨ m = 7 := by omega
  rcases hm with rfl | rfl | rfl | rfl | rfl | rfl | rfl | rfl <;> exact Ev.of (fun k => spec_l2Ways.mono _ k) (k := 20) (by decide +kernel)
theorem ev_l2At0 : ∀ (m : Nat) (left out : List Int) (k : Nat), left.length = m → m ≤ 7 → k < fct m → out.length + m ≤ 100 → Ev (fun K => spec_l2At.l0 K (k : Int) out left) (out ++ unr m left k)
  | 0, left, out, k, hl, _, _, _ => by
    have c : ¬ (left.length : Int) > 0 := by omega
    rw [unr, List.append_nil]
    exact Ev.step (f := fun _ => some out) (fun K => by simp only [spec_l2At.l0, c, ↓reduceIte]) (Ev.now _)
  | m + 1, left, out, k, hl, hm, hk, ho => by
    have c : (left.length : Int) > 0 := by omega
    have hq : k / fct m < left.length := by
      rw [hl]
      exact Nat.div_lt_of_lt_mul (by rw [Nat.mul_comm]; exact hk)
    have hkb := fct_le (m + 1) hm
    have hp := fct_pos m
    have hdk : k / fct m ≤ k := Nat.div_le_self _ _
    obtain ⟨q, hqe⟩ : ∃ q : Nat, q = k / fct m := ⟨_, rfl⟩
    rw [← hqe] at hq hdk
    have HQE := Aside0.mk hqe
    clear hqe
    have e1 := Aside0.mk (show wrap64 ((left.length : Int) - 1) = (m : Int) from by rw [wr (by omega) (by omega)]; omega)
    have e2 := Aside0.mk (show wrap64 (Int.tdiv (k : Int) (fct m : Int)) = (q : Int) from by rw [← Int.ofNat_tdiv, ← HQE.out, wr (by omega) (by omega)])
    have e3 := Aside0.mk (show Int.tmod (k : Int) (fct m : Int) = ((k % fct m : Nat) : Int) from (Int.ofNat_tmod _ _).symm)
    have e4 := Aside0.mk (show wrap64 ((q : Int) + 1) = ((q + 1 : Nat) : Int) from wj (by omega))
    have n0 : ¬ (fct m : Int) = 0 := by omega
    have c1 : 0 ≤ (q : Int) := by omega
    have c2 : (q : Int) < (left.length : Int) := by omega
    have c3 : (q : Int) ≤ (left.length : Int) := by omega
    have c4 : 0 ≤ ((q + 1 : Nat) : Int) := by omega
    have c5 : ((q + 1 : Nat) : Int) ≤ (left.length : Int) := by omega
    have c6 : out.length < 17592186044416 := by omega
    have own : spec_l1Own.f (left.take q) = some (left.take q) := by
      unfold spec_l1Own.f
      have lim : ([] : List Int).length + (left.take q).length < 17592186044416 := by simp; omega
      simp only [Option.bind_some, lim, ↓reduceIte, List.nil_append]
    have c7 : (left.take q).length + (left.drop (q + 1)).length < 17592186044416 := by rw [List.length_take, List.length_drop]; omega
    have ih := ev_l2At0 m (left.eraseIdx q) (out ++ [rd left (q : Int)]) (k % fct m) (by rw [List.length_eraseIdx_of_lt hq]; omega) (by omega) (Nat.mod_lt _ hp) (by rw [List.length_append, List.length_singleton]; omega)
    rw [unr, ← HQE.out, List.append_cons]
    refine Ev.step (f := fun K => (spec_l2Ways.f K (m : Int)).bind fun t802 => (if t802 = 0 then (none) else (if 0 ≤ (wrap64 (Int.tdiv (k : Int) t802)) then (if (wrap64 (Int.tdiv (k : Int) t802)) < (left.length : Int) then (if out.length < 17592186044416 then (if (wrap64 (Int.tdiv (k : Int) t802)) ≤ (left.length : Int) then ((spec_l1Own.f (left.take ((wrap64 (Int.tdiv (k : Int) t802)) : Int).toNat)).bind fun t811 => (if 0 ≤ (wrap64 ((wrap64 (Int.tdiv (k : Int) t802)) + 1)) then (if (wrap64 ((wrap64 (Int.tdiv (k : Int) t802)) + 1)) ≤ (left.length : Int) then ((some (left.drop ((wrap64 ((wrap64 (Int.tdiv (k : Int) t802)) + 1)) : Int).toNat : List Int)).bind fun y814 => (if t811.length + y814.length < 17592186044416 then (spec_l2At.l0 K (Int.tmod (k : Int) t802) (out ++ [rd left (wrap64 (Int.tdiv (k : Int) t802))]) (t811 ++ y814)) else (none))) else (none)) else (none))) else (none)) else (none)) else (none)) else (none))))
      (fun K => by simp only [spec_l2At.l0, c, e1.out, ↓reduceIte]) (Ev.bind (ev_l2Ways m (by omega)) ?_)
    simp only [if_neg n0, e2.out, e3.out, e4.out, c1, c2, c3, c4, c5, c6, own, c7, Int.toNat_natCast, Option.bind_some, ↓reduceIte]
    rw [← List.eraseIdx_eq_take_drop_succ]
    exact ih
theorem ev_l2At (n k : Nat) (h7 : n ≤ 7) (hk : k < fct n) : Ev (fun K => spec_l2At.f K (n : Int) (k : Int)) (unr n (iota 1 n) k) := by
  unfold spec_l2At.f
  refine Ev.bind (ev_l2Sorted n (by omega)) ?_
  have := ev_l2At0 n (iota 1 n) [] k (iota_length _ _) h7 hk (by simp; omega)
  rw [List.nil_append] at this
  exact this
theorem ev_isSize (a : Int) : impl_isSize.f a = some (decide (1 ≤ a) && decide (a ≤ 7)) := by
  unfold impl_isSize.f
  by_cases h : 1 ≤ a
  · rw [if_pos h, decide_eq_true h, Bool.true_and]
  · rw [if_neg h, decide_eq_false h, Bool.false_and]
theorem eqB_zr (p : Nat → Int) : eqB p = zr p := by
  by_cases h0 : p 0 = 0
  · have ht : tw p = [] := by simp [tw, m7, h0]
    have hz : zr p = !([p 0, p 1, p 2, p 3, p 4, p 5, p 6].any (· != 0)) := by simp [zr, m7, h0]
    unfold eqB
    rw [ht, hz, Bool.eq_iff_iff]
    simp only [rd, Int.toNat_natCast, List.getD_cons_zero, List.getD_cons_succ, List.getD_nil, List.any_cons, List.any_nil, decide_eq_true_eq, Bool.not_eq_true', Bool.or_eq_false_iff, bne_eq_false_iff_eq, true_and, and_true]
    try first | omega | (constructor <;> intro h_ <;> simp_all <;> omega) | simp_all
  by_cases h1 : p 1 = 0
  · have ht : tw p = [p 0] := by simp [tw, m7, h0, h1]
    have hz : zr p = !([p 1, p 2, p 3, p 4, p 5, p 6].any (· != 0)) := by simp [zr, m7, h0, h1]
    unfold eqB
    rw [ht, hz, Bool.eq_iff_iff]
    simp only [rd, Int.toNat_natCast, List.getD_cons_zero, List.getD_cons_succ, List.getD_nil, List.any_cons, List.any_nil, decide_eq_true_eq, Bool.not_eq_true', Bool.or_eq_false_iff, bne_eq_false_iff_eq, true_and, and_true]
    try first | omega | (constructor <;> intro h_ <;> simp_all <;> omega) | simp_all
  by_cases h2 : p 2 = 0
  · have ht : tw p = [p 0, p 1] := by simp [tw, m7, h0, h1, h2]
    have hz : zr p = !([p 2, p 3, p 4, p 5, p 6].any (· != 0)) := by simp [zr, m7, h0, h1, h2]
    unfold eqB
    rw [ht, hz, Bool.eq_iff_iff]
    simp only [rd, Int.toNat_natCast, List.getD_cons_zero, List.getD_cons_succ, List.getD_nil, List.any_cons, List.any_nil, decide_eq_true_eq, Bool.not_eq_true', Bool.or_eq_false_iff, bne_eq_false_iff_eq, true_and, and_true]
    try first | omega | (constructor <;> intro h_ <;> simp_all <;> omega) | simp_all
  by_cases h3 : p 3 = 0
  · have ht : tw p = [p 0, p 1, p 2] := by simp [tw, m7, h0, h1, h2, h3]
    have hz : zr p = !([p 3, p 4, p 5, p 6].any (· != 0)) := by simp [zr, m7, h0, h1, h2, h3]
    unfold eqB
    rw [ht, hz, Bool.eq_iff_iff]
    simp only [rd, Int.toNat_natCast, List.getD_cons_zero, List.getD_cons_succ, List.getD_nil, List.any_cons, List.any_nil, decide_eq_true_eq, Bool.not_eq_true', Bool.or_eq_false_iff, bne_eq_false_iff_eq, true_and, and_true]
    try first | omega | (constructor <;> intro h_ <;> simp_all <;> omega) | simp_all
  by_cases h4 : p 4 = 0
  · have ht : tw p = [p 0, p 1, p 2, p 3] := by simp [tw, m7, h0, h1, h2, h3, h4]
    have hz : zr p = !([p 4, p 5, p 6].any (· != 0)) := by simp [zr, m7, h0, h1, h2, h3, h4]
    unfold eqB
    rw [ht, hz, Bool.eq_iff_iff]
    simp only [rd, Int.toNat_natCast, List.getD_cons_zero, List.getD_cons_succ, List.getD_nil, List.any_cons, List.any_nil, decide_eq_true_eq, Bool.not_eq_true', Bool.or_eq_false_iff, bne_eq_false_iff_eq, true_and, and_true]
    try first | omega | (constructor <;> intro h_ <;> simp_all <;> omega) | simp_all
  by_cases h5 : p 5 = 0
  · have ht : tw p = [p 0, p 1, p 2, p 3, p 4] := by simp [tw, m7, h0, h1, h2, h3, h4, h5]
    have hz : zr p = !([p 5, p 6].any (· != 0)) := by simp [zr, m7, h0, h1, h2, h3, h4, h5]
    unfold eqB
    rw [ht, hz, Bool.eq_iff_iff]
    simp only [rd, Int.toNat_natCast, List.getD_cons_zero, List.getD_cons_succ, List.getD_nil, List.any_cons, List.any_nil, decide_eq_true_eq, Bool.not_eq_true', Bool.or_eq_false_iff, bne_eq_false_iff_eq, true_and, and_true]
    try first | omega | (constructor <;> intro h_ <;> simp_all <;> omega) | simp_all
  by_cases h6 : p 6 = 0
  · have ht : tw p = [p 0, p 1, p 2, p 3, p 4, p 5] := by simp [tw, m7, h0, h1, h2, h3, h4, h5, h6]
    have hz : zr p = !([p 6].any (· != 0)) := by simp [zr, m7, h0, h1, h2, h3, h4, h5, h6]
    unfold eqB
    rw [ht, hz, Bool.eq_iff_iff]
    simp only [rd, Int.toNat_natCast, List.getD_cons_zero, List.getD_cons_succ, List.getD_nil, List.any_cons, List.any_nil, decide_eq_true_eq, Bool.not_eq_true', Bool.or_eq_false_iff, bne_eq_false_iff_eq, true_and, and_true]
    try first | omega | (constructor <;> intro h_ <;> simp_all <;> omega) | simp_all
  have ht : tw p = [p 0, p 1, p 2, p 3, p 4, p 5, p 6] := by simp [tw, m7, h0, h1, h2, h3, h4, h5, h6]
  have hz : zr p = true := by simp [zr, m7, h0, h1, h2, h3, h4, h5, h6]
  unfold eqB
  rw [ht, hz, Bool.eq_iff_iff]
  simp only [rd, Int.toNat_natCast, List.getD_cons_zero, List.getD_cons_succ, List.getD_nil, List.any_cons, List.any_nil, decide_eq_true_eq, Bool.not_eq_true', Bool.or_eq_false_iff, bne_eq_false_iff_eq, true_and, and_true]
  try first | omega | (constructor <;> intro h_ <;> simp_all <;> omega) | simp_all
/-- Both tell the same of a yard. -/
theorem both_yard (p0 p1 p2 : Nat → Int) (cn : Int) : ∃ (k1 k2 : Nat) (b : Bool), goodF k1 p0 p1 p2 cn = some b ∧ partsF k2 p0 p1 p2 cn = some b := by
  obtain ⟨K1, h1⟩ := ev_l2Order (allY p0 p1 p2)
  obtain ⟨K2, h2⟩ := ev_isOrder (allY p0 p1 p2)
  dsimp only at h1 h2
  refine ⟨K1, K2, ordB (allY p0 p1 p2) && eqB p0 && eqB p1 && eqB p2 && (decide (0 ≤ cn) && decide (cn ≤ 1000)), ?_, ?_⟩
  · unfold goodF
    rw [h1 K1 (Nat.le_refl _)]
    rfl
  · unfold partsF
    rw [h2 K2 (Nat.le_refl _)]
    simp only [Option.bind_some, eqB_zr]
    congr 1
    cases ordB (allY p0 p1 p2) <;> cases zr p0 <;> cases zr p1 <;> cases zr p2 <;> cases decide (0 ≤ cn) <;> cases decide (cn ≤ 1000) <;> rfl
/-! ### what an act does, in plain words -/
theorem chk_of' (n : Int) : ∀ (l pre : List Int), (∀ x ∈ l, 1 ≤ x ∧ x ≤ n) → (pre ++ l).Nodup → chk n pre l = true
  | [], _, _, _ => rfl
  | x :: t, pre, h, hn => by
    have hx := h x (by simp)
    have hnx : x ∉ pre := fun hp => by
      have := List.nodup_append.1 hn
      exact this.2.2 x hp x (by simp) rfl
    simp only [chk, Bool.and_eq_true, decide_eq_true_eq, Bool.not_eq_true', List.contains_eq_mem, decide_eq_false_iff_not]
    exact ⟨⟨⟨hx.1, hx.2⟩, hnx⟩, chk_of' n t (pre ++ [x]) (fun y hy => h y (by simp [hy])) (by rw [List.append_assoc]; exact hn)⟩
theorem iota_nodup' (n : Nat) : (iota 1 n).Nodup := by
  unfold iota
  rw [List.nodup_iff_pairwise_ne, List.pairwise_map]
  refine List.Pairwise.imp ?_ List.nodup_range
  intro a b hab h
  exact hab (by omega)
def ordP (aa bb : Int) : List Int × Bool := if 1 ≤ aa ∧ aa ≤ 7 ∧ 0 ≤ bb ∧ bb < (fct aa.toNat : Int) then (unr aa.toNat (iota 1 aa.toNat) bb.toNat, true) else ([], false)
theorem ev_specOrderAt (aa bb : Int) : Ev (fun k => spec_OrderAt.f k aa bb) (ordP aa bb) := by
  unfold spec_OrderAt.f ordP
  rw [ev_l1In']
  simp only [Option.bind_some]
  by_cases h : 1 ≤ aa ∧ aa ≤ 7
  · obtain ⟨h1, h7⟩ := h
    obtain ⟨m, rfl⟩ := Int.eq_ofNat_of_zero_le (show 0 ≤ aa by omega)
    have hm : m ≤ 7 := by omega
    have hf := fct_le m hm
    have hp := fct_pos m
    rw [decide_eq_true h1, decide_eq_true h7]
    simp only [Bool.and_self, ↓reduceIte, Int.toNat_natCast]
    refine Ev.bind (ev_l2Ways m hm) ?_
    simp only [ev_l1In', Option.bind_some]
    rw [wr (show -9223372036854775808 ≤ (fct m : Int) - 1 by omega) (by omega)]
    by_cases hb : 0 ≤ bb ∧ bb < (fct m : Int)
    · obtain ⟨hb0, hb1⟩ := hb
      obtain ⟨j, rfl⟩ := Int.eq_ofNat_of_zero_le hb0
      rw [decide_eq_true hb0, decide_eq_true (show (j : Int) ≤ (fct m : Int) - 1 by omega), if_pos ⟨h1, h7, hb0, hb1⟩]
      simp only [Bool.and_self, ↓reduceIte, Int.toNat_natCast]
      exact Ev.bind (ev_l2At m j hm (by omega)) (Ev.now _)
    · rw [if_neg (by rintro ⟨_, _, h3, h4⟩; exact hb ⟨h3, h4⟩)]
      have : (decide (0 ≤ bb) && decide (bb ≤ (fct m : Int) - 1)) = false := by
        rcases Classical.em (0 ≤ bb) with h3 | h3
        · rw [decide_eq_false (show ¬ bb ≤ (fct m : Int) - 1 from fun h4 => hb ⟨h3, by omega⟩), Bool.and_false]
        · rw [decide_eq_false h3, Bool.false_and]
      rw [this]
      simp only [Bool.false_eq_true, ↓reduceIte]
      exact Ev.now _
  · rw [if_neg (by rintro ⟨h1, h7, _⟩; exact h ⟨h1, h7⟩)]
    have : (decide (1 ≤ aa) && decide (aa ≤ 7)) = false := by
      rcases Classical.em (1 ≤ aa) with h3 | h3
      · rw [decide_eq_false (show ¬ aa ≤ 7 from fun h4 => h ⟨h3, h4⟩), Bool.and_false]
      · rw [decide_eq_false h3, Bool.false_and]
    rw [this]
    simp only [Bool.false_eq_true, ↓reduceIte]
    exact Ev.now _
theorem ev_implOrderAt (aa bb : Int) : Ev (fun k => impl_OrderAt.f k aa bb) (ordP aa bb) := by
  unfold impl_OrderAt.f ordP
  rw [ev_isSize]
  simp only [Option.bind_some]
  by_cases h : 1 ≤ aa ∧ aa ≤ 7
  · obtain ⟨h1, h7⟩ := h
    obtain ⟨m, rfl⟩ := Int.eq_ofNat_of_zero_le (show 0 ≤ aa by omega)
    have hm : m ≤ 7 := by omega
    rw [decide_eq_true h1, decide_eq_true h7]
    simp only [Bool.and_self, ↓reduceIte, Int.toNat_natCast]
    by_cases hb0 : bb < 0
    · rw [if_neg (by rintro ⟨_, _, h3, _⟩; omega)]
      simp only [if_pos hb0]
      exact Ev.now _
    · simp only [if_neg hb0]
      refine Ev.bind (ev_factorial m hm) ?_
      by_cases hb1 : bb ≥ (fct m : Int)
      · rw [if_neg (by rintro ⟨_, _, _, h4⟩; omega)]
        simp only [if_pos hb1]
        exact Ev.now _
      · obtain ⟨j, rfl⟩ := Int.eq_ofNat_of_zero_le (show 0 ≤ bb by omega)
        rw [if_pos ⟨h1, h7, by omega, by omega⟩]
        simp only [if_neg hb1, Int.toNat_natCast]
        exact Ev.bind (ev_orderAt m j (by omega) hm (by omega)) (Ev.now _)
  · rw [if_neg (by rintro ⟨h1, h7, _⟩; exact h ⟨h1, h7⟩)]
    have : (decide (1 ≤ aa) && decide (aa ≤ 7)) = false := by
      rcases Classical.em (1 ≤ aa) with h3 | h3
      · rw [decide_eq_false (show ¬ aa ≤ 7 from fun h4 => h ⟨h3, h4⟩), Bool.and_false]
      · rw [decide_eq_false h3, Bool.false_and]
    rw [this]
    simp only [Bool.false_eq_true, ↓reduceIte]
    exact Ev.now _
theorem seven_list (P : List Int → Prop) (h : ∀ a b c d e f g : Int, P [] ∧ P [a] ∧ P [a, b] ∧ P [a, b, c] ∧ P [a, b, c, d] ∧ P [a, b, c, d, e] ∧ P [a, b, c, d, e, f] ∧ P [a, b, c, d, e, f, g]) (l : List Int) (hl : l.length ≤ 7) : P l := by
  rcases l with _ | ⟨a, _ | ⟨b, _ | ⟨c, _ | ⟨d, _ | ⟨e, _ | ⟨f, _ | ⟨g, _ | ⟨i, t⟩⟩⟩⟩⟩⟩⟩⟩
  · exact (h 0 0 0 0 0 0 0).1
  · exact (h a 0 0 0 0 0 0).2.1
  · exact (h a b 0 0 0 0 0).2.2.1
  · exact (h a b c 0 0 0 0).2.2.2.1
  · exact (h a b c d 0 0 0).2.2.2.2.1
  · exact (h a b c d e 0 0).2.2.2.2.2.1
  · exact (h a b c d e f 0).2.2.2.2.2.2.1
  · exact (h a b c d e f g).2.2.2.2.2.2.2
  · simp at hl
theorem ev_specBack (l : List Int) (hl : l.length ≤ 7) : Ev (fun k => spec_l2Back.f k l) l.reverse := by
  refine Ev.of (fun k => spec_l2Back.mono _ k) (k := 12) ?_
  exact seven_list (fun l => spec_l2Back.f 12 l = some l.reverse) (fun a b c d e f g => ⟨by kernel_rfl, by kernel_rfl, by kernel_rfl, by kernel_rfl, by kernel_rfl, by kernel_rfl, by kernel_rfl, by kernel_rfl⟩) l hl
theorem ev_implBack (l : List Int) (hl : l.length ≤ 7) : Ev (fun k => impl_back.f k l) l.reverse := by
  refine Ev.of (fun k => impl_back.mono _ k) (k := 12) ?_
  exact seven_list (fun l => impl_back.f 12 l = some l.reverse) (fun a b c d e f g => ⟨by kernel_rfl, by kernel_rfl, by kernel_rfl, by kernel_rfl, by kernel_rfl, by kernel_rfl, by kernel_rfl, by kernel_rfl⟩) l hl
/-- The rows behind an act. -/
def rP (L0 L1 L2 : List Int) (kd aa bb : Int) : Option (List Int × List Int × List Int) :=
  if kd = 1 then (if L0.length = 0 then none else zfA aa bb (L0.drop 1, L1 ++ [rd L0 0], L2))
  else if kd = 2 then (if L1.length = 0 then none else zfA aa bb (L0, L1.take (L1.length - 1), L2 ++ [rd L1 ((L1.length : Int) - 1)]))
  else if kd = 3 then (if L1.length = 0 then none else zfA aa bb ([rd L1 ((L1.length : Int) - 1)] ++ L0, L1.take (L1.length - 1), L2))
  else if kd = 4 then (if L0.length < 2 then none else zfA aa bb (L0.reverse, L1, L2))
  else if kd = 5 then (if (ordP aa bb).2 = true then some ((ordP aa bb).1, [], []) else none)
  else none
theorem mkF_of {back : List Int → Option (List Int)} {ord : Int → Int → Option (List Int × Bool)} {L0 L1 L2 : List Int} {kd aa bb : Int} (hb : back L0 = some L0.reverse) (ho : ord aa bb = some (ordP aa bb)) : mkF back ord L0 L1 L2 kd aa bb = some (rP L0 L1 L2 kd aa bb) := by
  unfold mkF rP
  rw [hb, ho]
  by_cases h1 : kd = 1
  · rw [if_pos h1, if_pos h1]
  rw [if_neg h1, if_neg h1]
  by_cases h2 : kd = 2
  · rw [if_pos h2, if_pos h2]
  rw [if_neg h2, if_neg h2]
  by_cases h3 : kd = 3
  · rw [if_pos h3, if_pos h3]
  rw [if_neg h3, if_neg h3]
  by_cases h4 : kd = 4
  · rw [if_pos h4, if_pos h4]; rfl
  rw [if_neg h4, if_neg h4]
  by_cases h5 : kd = 5
  · rw [if_pos h5, if_pos h5]; rfl
  rw [if_neg h5, if_neg h5]
theorem ordB_perm {l m : List Int} (h : ordB l = true) (p : m.Perm l) : ordB m = true := by
  have hl := ordB_len h
  have hr := ordB_range h
  have hn := ordB_nodup h
  unfold ordB
  rw [p.length_eq, decide_eq_true hl.1, decide_eq_true hl.2]
  exact chk_of' _ m [] (fun x hx => hr x (p.mem_iff.1 hx)) (by rw [List.nil_append]; exact p.symm.nodup hn)
theorem zfA_some {aa bb : Int} {x y : List Int × List Int × List Int} (h : zfA aa bb x = some y) : x = y := by
  unfold zfA at h
  split at h
  · exact Option.some.inj h
  · cases h
theorem rd_last (m : List Int) (a : Int) : rd (m ++ [a]) (((m ++ [a]).length : Int) - 1) = a := by
  rw [show (((m ++ [a]).length : Int) - 1) = (m.length : Int) by simp, rd_nat]
  simp
theorem rP_ord {L0 L1 L2 : List Int} {kd aa bb : Int} {x : List Int × List Int × List Int} (h : ordB (L0 ++ L1 ++ L2) = true) (hx : rP L0 L1 L2 kd aa bb = some x) : ordB (x.1 ++ x.2.1 ++ x.2.2) = true := by
  unfold rP at hx
  by_cases h1 : kd = 1
  · rw [if_pos h1] at hx
    split at hx
    · cases hx
    · rename_i hz
      obtain rfl := zfA_some hx
      obtain ⟨a, t, rfl⟩ := List.exists_cons_of_length_pos (Nat.pos_of_ne_zero hz)
      refine ordB_perm h (List.perm_iff_count.2 fun c => ?_)
      show (t ++ (L1 ++ [a]) ++ L2).count c = _
      simp only [List.count_append, List.count_cons, List.count_nil]
      omega
  rw [if_neg h1] at hx
  by_cases h2 : kd = 2
  · rw [if_pos h2] at hx
    split at hx
    · cases hx
    · rename_i hz
      obtain rfl := zfA_some hx
      rcases snoc_cases L1 with rfl | ⟨m, a, rfl⟩
      · exact absurd rfl hz
      refine ordB_perm h (List.perm_iff_count.2 fun c => ?_)
      rw [rd_last]
      show (L0 ++ (m ++ [a]).take ((m ++ [a]).length - 1) ++ (L2 ++ [a])).count c = _
      rw [show (m ++ [a]).take ((m ++ [a]).length - 1) = m by simp]
      simp only [List.count_append, List.count_cons, List.count_nil]
      omega
  rw [if_neg h2] at hx
  by_cases h3 : kd = 3
  · rw [if_pos h3] at hx
    split at hx
    · cases hx
    · rename_i hz
      obtain rfl := zfA_some hx
      rcases snoc_cases L1 with rfl | ⟨m, a, rfl⟩
      · exact absurd rfl hz
      refine ordB_perm h (List.perm_iff_count.2 fun c => ?_)
      rw [rd_last]
      show ([a] ++ L0 ++ (m ++ [a]).take ((m ++ [a]).length - 1) ++ L2).count c = _
      rw [show (m ++ [a]).take ((m ++ [a]).length - 1) = m by simp]
      simp only [List.count_append, List.count_cons, List.count_nil]
      omega
  rw [if_neg h3] at hx
  by_cases h4 : kd = 4
  · rw [if_pos h4] at hx
    split at hx
    · cases hx
    · obtain rfl := zfA_some hx
      refine ordB_perm h (List.perm_iff_count.2 fun c => ?_)
      show (L0.reverse ++ L1 ++ L2).count c = _
      simp only [List.count_append, List.count_reverse]
  rw [if_neg h4] at hx
  by_cases h5 : kd = 5
  · rw [if_pos h5] at hx
    split at hx
    · rename_i ho
      obtain rfl := Option.some.inj hx
      unfold ordP at ho ⊢
      split at ho
      · rename_i hc
        obtain ⟨c1, c7, c0, cf⟩ := hc
        rw [if_pos ⟨c1, c7, c0, cf⟩]
        show ordB (unr aa.toNat (iota 1 aa.toNat) bb.toNat ++ [] ++ []) = true
        rw [List.append_nil, List.append_nil]
        have p := unr_perm aa.toNat (iota 1 aa.toNat) bb.toNat (iota_length _ _) (by omega)
        have hl : (unr aa.toNat (iota 1 aa.toNat) bb.toNat).length = aa.toNat := unr_len _ _ _
        unfold ordB
        rw [hl, decide_eq_true (show 1 ≤ aa.toNat by omega), decide_eq_true (show aa.toNat ≤ 7 by omega)]
        refine chk_of' _ _ [] (fun x hx => ?_) (by rw [List.nil_append]; exact p.symm.nodup (iota_nodup' _))
        have := p.mem_iff.1 hx
        obtain ⟨i, hi, rfl⟩ := List.mem_map.1 this
        have := List.mem_range.1 hi
        omega
      · cases ho
    · cases hx
  rw [if_neg h5] at hx
  cases hx
theorem tw_rdf (l : List Int) (hl : l.length ≤ 7) : (∀ x ∈ l, x ≠ 0) → tw (rdf l) = l := by
  refine seven_list (fun l => (∀ x ∈ l, x ≠ 0) → tw (rdf l) = l) (fun a b c d e f g => ?_) l hl
  refine ⟨?_, ?_, ?_, ?_, ?_, ?_, ?_, ?_⟩ <;> intro h <;> simp only [List.mem_cons, List.not_mem_nil, or_false, forall_eq_or_imp, forall_eq] at h <;> simp_all [tw, m7, rdf, rd]
theorem eqB_rdf (l : List Int) (hl : l.length ≤ 7) (h : ∀ x ∈ l, x ≠ 0) : eqB (rdf l) = true := by
  unfold eqB
  rw [tw_rdf l hl h]
  exact decide_eq_true ⟨rfl, rfl, rfl, rfl, rfl, rfl, rfl⟩
theorem good_of (k : Nat) (x : List Int × List Int × List Int) (cn : Int) (hk : spec_l2Order.f k (x.1 ++ x.2.1 ++ x.2.2) = some (ordB (x.1 ++ x.2.1 ++ x.2.2))) (h : ordB (x.1 ++ x.2.1 ++ x.2.2) = true) (h0 : 0 ≤ cn) (h1 : cn ≤ 1000) : goodF k (rdf x.1) (rdf x.2.1) (rdf x.2.2) (cn + 1) = some (!(cn == 1000)) := by
  have hl := (ordB_len h).2
  have hr := ordB_range h
  simp only [List.length_append] at hl
  have n0 : ∀ y ∈ x.1, y ≠ 0 := fun y hy h2 => by have := hr y (by simp [hy]); omega
  have n1 : ∀ y ∈ x.2.1, y ≠ 0 := fun y hy h2 => by have := hr y (by simp [hy]); omega
  have n2 : ∀ y ∈ x.2.2, y ≠ 0 := fun y hy h2 => by have := hr y (by simp [hy]); omega
  unfold goodF allY
  rw [tw_rdf _ (by omega) n0, tw_rdf _ (by omega) n1, tw_rdf _ (by omega) n2, hk, h, eqB_rdf _ (by omega) n0, eqB_rdf _ (by omega) n1, eqB_rdf _ (by omega) n2]
  simp only [Option.bind_some, Bool.and_self, Bool.true_and]
  congr 1
  rw [decide_eq_true (show 0 ≤ cn + 1 by omega), Bool.true_and]
  by_cases h2 : cn = 1000
  · subst h2; rfl
  · rw [decide_eq_true (show cn + 1 ≤ 1000 by omega), beq_eq_false_iff_ne.2 h2]; rfl
def toA (x : S47) : S49 := ⟨x.f0, x.f1, x.f2⟩
theorem rdT47 (l : List S47) (j : Nat) (h : j < l.length) : rd_T47 l (j : Int) = l[j] := by simp [rd_T47, h]
theorem rdT49 (l : List S49) (j : Nat) (h : j < l.length) : rd_T49 l (j : Int) = l[j] := by simp [rd_T49, h]
theorem set_actcopy (l : List S47) (j : Nat) (h : j < l.length) : ((l.take j).map toA ++ List.replicate (l.length - j) z49).set j (toA l[j]) = (l.take (j + 1)).map toA ++ List.replicate (l.length - (j + 1)) z49 := by
  have hr : List.replicate (l.length - j) z49 = z49 :: List.replicate (l.length - (j + 1)) z49 := by
    rw [show l.length - j = (l.length - (j + 1)) + 1 by omega, List.replicate_succ]
  have ht : l.take (j + 1) = l.take j ++ [l[j]] := (List.take_append_getElem h).symm
  rw [hr, ht, List.map_append, List.append_assoc, List.set_append_right _ _ (by simp; omega)]
  simp [Nat.min_eq_left (Nat.le_of_lt h)]
theorem ev_toActS_l0 (l : List S47) (hl : l.length ≤ 1048576) (d : Nat) : ∀ j : Nat, j + d = l.length → Ev (fun k => laws_toActS.l0 k l ((l.take j).map toA ++ List.replicate (l.length - j) z49) (j : Int)) (l.map toA) := by
  induction d with
  | zero =>
    intro j hj
    have c : ¬ (j : Int) < (l.length : Int) := by omega
    have e : (l.take j).map toA ++ List.replicate (l.length - j) z49 = l.map toA := by rw [List.take_of_length_le (by omega), show l.length - j = 0 by omega]; simp
    rw [e]
    exact Ev.step (fun k => by simp only [laws_toActS.l0, c, ↓reduceIte] <;> rfl) (Ev.now _)
  | succ d ih =>
    intro j hj
    have c : (j : Int) < (l.length : Int) := by omega
    have c0 : 0 ≤ (j : Int) := by omega
    have c1 : (j : Int) < ((((l.take j).map toA ++ List.replicate (l.length - j) z49).length : Nat) : Int) := by simp; omega
    have e1 : wrap64 ((j : Int) + 1) = ((j + 1 : Nat) : Int) := wj (by omega)
    have hj2 : j < l.length := by omega
    have es := set_actcopy l j hj2
    rw [← rdT47 l j hj2] at es
    refine Ev.step (fun k => ?_) (ih (j + 1) (by omega))
    simp only [laws_toActS.l0, c, c0, c1, laws_toAct.f, Option.bind_some, ↓reduceIte]
    rw [e1, Int.toNat_natCast, ← es]
    rfl
theorem ev_eqActS_l0 (l : List S49) (hl : l.length < 9223372036854775807) (d : Nat) : ∀ j : Nat, j + d = l.length → Ev (fun k => laws_eqActS.l0 k l l (j : Int)) true := by
  induction d with
  | zero =>
    intro j hj
    have c : ¬ (j : Int) < (l.length : Int) := by omega
    exact Ev.step (fun k => by simp only [laws_eqActS.l0, c, ↓reduceIte] <;> rfl) (Ev.now _)
  | succ d ih =>
    intro j hj
    have c : (j : Int) < (l.length : Int) := by omega
    have c0 : 0 ≤ (j : Int) := by omega
    have e1 : wrap64 ((j : Int) + 1) = ((j + 1 : Nat) : Int) := wj (by omega)
    exact Ev.step (fun k => by simp only [laws_eqActS.l0, c, c0, e1, laws_eqAct.f, Option.bind_some, ↓reduceIte] <;> rfl) (ih (j + 1) (by omega))
theorem acts_copied (l0 : List S47) (h : l0.length ≤ 1048576) : ∃ (la : List S49) (k1 k2 : Nat), la.length = l0.length ∧ laws_toActS.f k1 l0 = some la ∧ laws_eqActS.f k2 la la = some true := by
  have e1 : Ev (fun k => laws_toActS.f k l0) (l0.map toA) := by
    have c0 : 0 ≤ (l0.length : Int) := by omega
    have c1 : l0.length ≤ 11728124029610 := by omega
    have := ev_toActS_l0 l0 h l0.length 0 (by omega)
    simp only [List.take_zero, List.map_nil, List.nil_append, Nat.sub_zero] at this
    simp only [laws_toActS.f, c0, c1, Int.toNat_natCast, ↓reduceIte]
    exact this
  have e2 : Ev (fun k => laws_eqActS.f k (l0.map toA) (l0.map toA)) true := by
    simp only [laws_eqActS.f, ↓reduceIte]
    exact ev_eqActS_l0 (l0.map toA) (by rw [List.length_map]; omega) (l0.map toA).length 0 (by omega)
  obtain ⟨K1, h1⟩ := e1
  obtain ⟨K2, h2⟩ := e2
  exact ⟨l0.map toA, K1, K2, List.length_map _, h1 K1 (Nat.le_refl _), h2 K2 (Nat.le_refl _)⟩
/-- The yard behind an act, if it is possible. -/
def nxP (y : Yd) (a : S49) : Option Yd := match rP (tw y.p0) (tw y.p1) (tw y.p2) a.f0 a.f1 a.f2 with
  | some x => if y.cn = 1000 then none else some ⟨rdf x.1, rdf x.2.1, rdf x.2.2, y.cn + 1⟩
  | none => none
def VP (y : Yd) : Prop := ordB (allY y.p0 y.p1 y.p2) = true ∧ eqB y.p0 = true ∧ eqB y.p1 = true ∧ eqB y.p2 = true ∧ 0 ≤ y.cn ∧ y.cn ≤ 1000
theorem nxP_valid (y : Yd) (a : S49) (y' : Yd) (h : VP y) (hn : nxP y a = some y') : VP y' := by
  obtain ⟨h1, _, _, _, h2, h3⟩ := h
  unfold nxP at hn
  split at hn
  · rename_i x hx
    split at hn
    · cases hn
    · rename_i hc
      obtain rfl := Option.some.inj hn
      have ho := rP_ord h1 hx
      have hl := (ordB_len ho).2
      have hr := ordB_range ho
      simp only [List.length_append] at hl
      have n0 : ∀ y ∈ x.1, y ≠ 0 := fun y hy h2 => by have := hr y (by simp [hy]); omega
      have n1 : ∀ y ∈ x.2.1, y ≠ 0 := fun y hy h2 => by have := hr y (by simp [hy]); omega
      have n2 : ∀ y ∈ x.2.2, y ≠ 0 := fun y hy h2 => by have := hr y (by simp [hy]); omega
      refine ⟨?_, eqB_rdf _ (by omega) n0, eqB_rdf _ (by omega) n1, eqB_rdf _ (by omega) n2, by show 0 ≤ y.cn + 1; omega, by show y.cn + 1 ≤ 1000; omega⟩
      show ordB (tw (rdf x.1) ++ tw (rdf x.2.1) ++ tw (rdf x.2.2)) = true
      rw [tw_rdf _ (by omega) n0, tw_rdf _ (by omega) n1, tw_rdf _ (by omega) n2]
      exact ho
  · cases hn
theorem doY_out (y : Yd) (a : S49) (r : Option (List Int × List Int × List Int)) (hr : rP (tw y.p0) (tw y.p1) (tw y.p2) a.f0 a.f1 a.f2 = r) : doY r (!(y.cn == 1000)) y.cn = outl (nxP y a) ∧ doB r (!(y.cn == 1000)) = (nxP y a).isSome := by
  unfold nxP
  rw [hr]
  cases r with
  | none => exact ⟨by cases (!(y.cn == 1000)) <;> rfl, by cases (!(y.cn == 1000)) <;> rfl⟩
  | some x =>
    by_cases h : y.cn = 1000
    · rw [beq_iff_eq.2 h]
      simp only [if_pos h]
      exact ⟨rfl, rfl⟩
    · rw [beq_eq_false_iff_ne.2 h]
      simp only [if_neg h]
      exact ⟨rfl, rfl⟩
theorem step_spec (y : Yd) (h : VP y) (a : S49) (w : World) : Calls Try.prog 42 #[.agg (arr (y22 y.p0 y.p1 y.p2 y.cn)), .agg #[.int .i64 a.f0, .int .i64 a.f1, .int .i64 a.f2]] w fun e w' => e = .returned (.tuple #[.agg (arr (outl (nxP y a))), .bool (nxP y a).isSome]) ∧ Below w.heap.size w w' := by
  obtain ⟨K3, e3⟩ := ev_specBack (tw y.p0) (tw_len y.p0)
  obtain ⟨K5, e5⟩ := ev_specOrderAt a.f1 a.f2
  obtain ⟨r, hr⟩ : ∃ r, rP (tw y.p0) (tw y.p1) (tw y.p2) a.f0 a.f1 a.f2 = r := ⟨_, rfl⟩
  obtain ⟨d1, d2⟩ := doY_out y a r hr
  have hsome : ∃ K7, ∀ k, K7 ≤ k → ∀ x, r = some x → spec_l2Order.f k (x.1 ++ x.2.1 ++ x.2.2) = some (ordB (x.1 ++ x.2.1 ++ x.2.2)) := by
    cases hrr : r with
    | none => exact ⟨0, fun _ _ _ h => by cases h⟩
    | some x =>
      obtain ⟨K, e⟩ := ev_l2Order (x.1 ++ x.2.1 ++ x.2.2)
      exact ⟨K, fun k hk y hy => by cases hy; exact e k hk⟩
  obtain ⟨K7, e7⟩ := hsome
  have hm : mkF (spec_l2Back.f (K3 + K5 + K7)) (spec_OrderAt.f (K3 + K5 + K7)) (tw y.p0) (tw y.p1) (tw y.p2) a.f0 a.f1 a.f2 = some r := by
    rw [← hr]
    exact mkF_of (e3 _ (by omega)) (e5 _ (by omega))
  rw [← d1, ← d2]
  refine l12Do_walk (K3 + K5 + K7) y.p0 y.p1 y.p2 y.cn a.f0 a.f1 a.f2 r _ w h.2.2.2.2 hm (fun x hx => ?_)
  exact good_of _ x y.cn (e7 _ (by omega) x hx) (rP_ord h.1 (hr.trans hx)) h.2.2.2.2.1 h.2.2.2.2.2
theorem step_impl (y : Yd) (h : VP y) (a : S49) (w : World) : Calls Try.prog 26 #[.agg (arr (y22 y.p0 y.p1 y.p2 y.cn)), .agg #[.int .i64 a.f0, .int .i64 a.f1, .int .i64 a.f2]] w fun e w' => e = .returned (.tuple #[.agg (arr (outl (nxP y a))), .bool (nxP y a).isSome]) ∧ Below w.heap.size w w' := by
  obtain ⟨K2, e2⟩ := ev_isOrder (allY y.p0 y.p1 y.p2)
  obtain ⟨K4, e4⟩ := ev_implBack (tw y.p0) (tw_len y.p0)
  obtain ⟨K6, e6⟩ := ev_implOrderAt a.f1 a.f2
  obtain ⟨r, hr⟩ : ∃ r, rP (tw y.p0) (tw y.p1) (tw y.p2) a.f0 a.f1 a.f2 = r := ⟨_, rfl⟩
  obtain ⟨d1, d2⟩ := doY_out y a r hr
  have hm : mkF (impl_back.f (K2 + K4 + K6)) (impl_OrderAt.f (K2 + K4 + K6)) (tw y.p0) (tw y.p1) (tw y.p2) a.f0 a.f1 a.f2 = some r := by
    rw [← hr]
    exact mkF_of (e4 _ (by omega)) (e6 _ (by omega))
  have hP : partsF (K2 + K4 + K6) y.p0 y.p1 y.p2 y.cn = some true := by
    unfold partsF
    obtain ⟨h1, h2, h3, h4, h5, h6⟩ := h
    rw [show impl_isOrder.f (K2 + K4 + K6) (allY y.p0 y.p1 y.p2) = some (ordB (allY y.p0 y.p1 y.p2)) from e2 _ (by omega), h1, ← eqB_zr, ← eqB_zr, ← eqB_zr, h2, h3, h4, decide_eq_true h5, decide_eq_true h6]
    rfl
  rw [← d1, ← d2]
  exact implDoAct_walk (K2 + K4 + K6) y.p0 y.p1 y.p2 y.cn a.f0 a.f1 a.f2 true r _ w hP (fun _ => h.2.2.2.2) (fun _ => hm) (fun _ => rfl) (fun h => by cases h)
theorem both_DoActs (p0 p1 p2 : Nat → Int) (cn : Int) (la : List S49) (h : la.length ≤ 1048576) : ∃ (q0 q1 q2 : Nat → Int) (cx nn : Int) (bo : Bool),
    (∀ (A : Option Addr) (c : Nat) (w : World), la.length ≤ c → Kd.C k49 w A la.length la → Calls Try.prog 28 #[.agg (arr (y22 p0 p1 p2 cn)), .slice A la.length c] w fun e w' => e = .returned (.tuple #[.agg (arr (y22 q0 q1 q2 cx)), .int .i64 nn, .bool bo]) ∧ Below w.heap.size w w') ∧
    (∀ (A : Option Addr) (c : Nat) (w : World), la.length ≤ c → Kd.C k49 w A la.length la → Calls Try.prog 30 #[.agg (arr (y22 p0 p1 p2 cn)), .slice A la.length c] w fun e w' => e = .returned (.tuple #[.agg (arr (y22 q0 q1 q2 cx)), .int .i64 nn, .bool bo]) ∧ Below w.heap.size w w') := by
  obtain ⟨K1, e1⟩ := ev_l2Order (allY p0 p1 p2)
  obtain ⟨K2, e2⟩ := ev_isOrder (allY p0 p1 p2)
  obtain ⟨g, hg⟩ : ∃ g, g = (ordB (allY p0 p1 p2) && eqB p0 && eqB p1 && eqB p2 && (decide (0 ≤ cn) && decide (cn ≤ 1000))) := ⟨_, rfl⟩
  have hv : g = true → VP ⟨p0, p1, p2, cn⟩ := fun h => by
    rw [h] at hg
    have h2 := hg.symm
    simp only [Bool.and_eq_true, decide_eq_true_eq] at h2
    exact ⟨h2.1.1.1.1, h2.1.1.1.2, h2.1.1.2, h2.1.2, h2.2.1, h2.2.2⟩
  have hG : goodF K1 p0 p1 p2 cn = some g := by
    unfold goodF
    rw [show spec_l2Order.f K1 (allY p0 p1 p2) = some (ordB (allY p0 p1 p2)) from e1 K1 (by omega), hg]
    rfl
  have hP : partsF K2 p0 p1 p2 cn = some g := by
    unfold partsF
    rw [show impl_isOrder.f K2 (allY p0 p1 p2) = some (ordB (allY p0 p1 p2)) from e2 K2 (by omega), hg]
    simp only [Option.bind_some, eqB_zr]
    congr 1
    cases ordB (allY p0 p1 p2) <;> cases zr p0 <;> cases zr p1 <;> cases zr p2 <;> cases decide (0 ≤ cn) <;> cases decide (cn ≤ 1000) <;> rfl
  have hf : ∃ q0 q1 q2 cx, (if g = true then y22 (runA nxP ⟨p0, p1, p2, cn⟩ la 0).1.p0 (runA nxP ⟨p0, p1, p2, cn⟩ la 0).1.p1 (runA nxP ⟨p0, p1, p2, cn⟩ la 0).1.p2 (runA nxP ⟨p0, p1, p2, cn⟩ la 0).1.cn else yz) = y22 q0 q1 q2 cx := by
    cases g
    · exact ⟨_, _, _, _, rfl⟩
    · exact ⟨_, _, _, _, rfl⟩
  obtain ⟨q0, q1, q2, cx, hq⟩ := hf
  refine ⟨q0, q1, q2, cx, (if g = true then ((runA nxP ⟨p0, p1, p2, cn⟩ la 0).2 : Int) else 0), g, fun A c w hc hr => ?_, fun A c w hc hr => ?_⟩
  · rw [← hq]
    exact specDoActs_walk K1 nxP VP step_spec nxP_valid ⟨p0, p1, p2, cn⟩ g hG hv A c la w h hr hc
  · rw [← hq]
    exact implDoActs_walk K2 nxP VP step_impl nxP_valid ⟨p0, p1, p2, cn⟩ g hP hv A c la w h hr hc
set_option maxHeartbeats 16000000 in
set_option maxRecDepth 100000 in
theorem law_DoActs (p0 p1 p2 : Nat → Int) (cn : Int) (A : Option Addr) (c : Nat) (l0 : List S47) (w : World) (hm : l0.length ≤ 9223372036854775807) (hc : l0.length ≤ c) (hr : Kd.C k47 w A l0.length l0) : Calls Try.prog 8 #[.agg (arr (y22 p0 p1 p2 cn)), .slice A l0.length c] w fun e w' => e = .returned (.bool true) ∧ Below w.heap.size w w' := by
  have hul := Try.underlying32
  have hil : (Try.prog.info? 32).map (·.size) = some 22 := by kernel_rfl
  have hu := Try.underlying25
  have hi : (Try.prog.info? 25).map (·.size) = some 22 := by kernel_rfl
  have CW := Aside0.mk hr
  have HC := Aside0.mk hc
  have HM := Aside0.mk hm
  have z1 := blk_new w (.cells (arr (y22 p0 p1 p2 cn)) 32)
  obtain ⟨w1, hw1⟩ : ∃ w1, w1 = w.alloc (.cells (arr (y22 p0 p1 p2 cn)) 32) := ⟨_, rfl⟩
  have B1 := Aside0.mk (show Below w.heap.size w w1 by rw [hw1]; exact below_alloc (Below.refl _ _) _)
  rw [← hw1] at z1
  have Z1 := Aside0.mk z1
  clear z1 hr hc
  by_cases hbig : 1048576 < l0.length
  · have hs : laws_szActS.f l0 1048576 = some (-1) := by
      unfold laws_szActS.f
      rw [if_pos (by unfold wrap64; omega)]
    have HS := Aside0.mk hs
    clear hs hm hbig
    go_enter Try.func8, Try.ntmps8
    go_upto_region 1 with fail
    rw [← hw1]
    clear hw1
    go_wp2_with (first
      | (go_at_call 27; (refine (laws_szActS.calls A c l0 1048576 (-1) _ (Kd.C_below CW.out B1.out) HC.out HS.out).mono ?_); rintro e w2 ⟨rfl, hd⟩; have B2 := Aside0.mk (below_step B1.out (Drawn0.below hd)); clear hd))
    go_ret
    exact ⟨rfl, B2.out⟩
  have hs : laws_szActS.f l0 1048576 = some (1048576 - (l0.length : Int)) := by
    unfold laws_szActS.f
    rw [if_neg (by unfold wrap64; omega), show wrap64 (1048576 - (l0.length : Int)) = 1048576 - (l0.length : Int) by unfold wrap64; omega]
  have hl2 : l0.length ≤ 1048576 := by omega
  obtain ⟨lf, hlf⟩ : ∃ lf, lf = 1048576 - (l0.length : Int) := ⟨_, rfl⟩
  have hlf0 : decide (lf < 0) = false := decide_eq_false (by omega)
  have hlf1 : ¬ lf < 0 := by omega
  rw [← hlf] at hs
  obtain ⟨la, k1, k2, hla, hta, heq⟩ := acts_copied l0 hl2
  obtain ⟨q0, q1, q2, cx, nn, bo, hsp, hip⟩ := both_DoActs p0 p1 p2 cn la (by omega)
  have HS := Aside0.mk hs
  have HTA := Aside0.mk hta
  have HEQ := Aside0.mk heq
  have HSP := Aside0.mk hsp
  have HIP := Aside0.mk hip
  have hbb : (bo != bo) = false := bne_self_eq_false bo
  have hnn : (nn != nn) = false := bne_self_eq_false nn
  clear hs hlf hm hbig hl2 hta heq hsp hip hla
  go_enter Try.func8, Try.ntmps8
  go_upto_region 1 with fail
  rw [← hw1]
  clear hw1
  have S1 := Aside0.mk (rfl : (1 : Nat) = 1)
  have T1 := Aside0.mk (rfl : (1 : Nat) = 1)
  have T2 := Aside0.mk (rfl : (1 : Nat) = 1)
  go_wp2_with (first
    | (go_at_call 27; (refine (laws_szActS.calls A c l0 1048576 lf _ (Kd.C_below CW.out B1.out) HC.out HS.out).mono ?_); rintro e w2 ⟨rfl, hd⟩; have hb := Drawn0.below hd; have Z2 := Aside0.mk ((hb.block _ (lt_of_block Z1.out)).trans Z1.out); have B2 := Aside0.mk (below_step B1.out hb); clear hd hb)
    | ((with_reducible refine gate_dst (N := 19) rfl ?_); refine load_row_event rfl 32 (.tmp 2) rfl w.heap.size rfl 32 (arr (y22 p0 p1 p2 cn)) _ Z2.out hul rfl hil ?_)
    | (go_at_call 15; clear S1; (refine (toYard_walk p0 p1 p2 cn _).mono ?_); rintro e w3 ⟨rfl, hb⟩; have B3 := Aside0.mk (below_step B2.out hb); have Z3 := Aside0.mk ((hb.block _ (lt_of_block Z2.out)).trans Z2.out); clear hb)
    | (go_at_call 29; clear T1; (refine (laws_toActS.calls k1 A c l0 la _ (Kd.C_below CW.out B3.out) HC.out HTA.out).mono ?_); rintro e w4 ⟨v_, rfl, ho, hb⟩; obtain ⟨X4, d4, e2⟩ := Kd.R_slice ho; subst e2; have HX4 := Aside0.mk (Kd.R_reads' ho); have Z4 := Aside0.mk ((hb.block _ (lt_of_block Z3.out)).trans Z3.out); have B4 := Aside0.mk (below_step B3.out hb); clear ho hb)
    | (go_at_call 28; (refine (HSP.out X4 d4 _ HX4.out.2.1 HX4.out.2.2).mono ?_); rintro e w5 ⟨rfl, hb⟩; have Z5 := Aside0.mk ((hb.block _ (lt_of_block Z4.out)).trans Z4.out); have B5 := Aside0.mk (below_step B4.out hb); clear hb)
    | ((with_reducible refine gate_store (t := 25) (p := 6) rfl ?_); refine store_row_event rfl rfl 25 (.tmp 6) (.tmp 24) rfl w5.heap.size (arr (y22 q0 q1 q2 cx)) rfl rfl 25 _ (blk_new w5 _) hi rfl (by kernel_rfl) ?_; intro w6 hh ho; have Y6 := Aside0.mk hh; have W6 := Aside0.mk (show Below w5.heap.size w5 w6 from ho.below (below_alloc (Below.refl _ _) _) (Nat.le_refl _)); have Z6 := Aside0.mk ((W6.out.block _ (lt_of_block Z5.out)).trans Z5.out); have B6 := Aside0.mk (below_step B5.out W6.out); clear hh ho)
    | (go_at_call 29; clear T2; (refine (laws_toActS.calls k1 A c l0 la _ (Kd.C_below CW.out B6.out) HC.out HTA.out).mono ?_); rintro e w7 ⟨v_, rfl, ho, hb⟩; obtain ⟨X1, d1, e2⟩ := Kd.R_slice ho; subst e2; have HX7 := Aside0.mk (Kd.R_reads' ho); have Z7 := Aside0.mk ((hb.block _ (lt_of_block Z6.out)).trans Z6.out); have Y7 := Aside0.mk ((hb.block _ (lt_of_block Y6.out)).trans Y6.out); have B7 := Aside0.mk (below_step B6.out hb); clear ho hb)
    | ((with_reducible refine gate_dst (N := 30) rfl ?_); refine load_row_event rfl 32 (.tmp 2) rfl w.heap.size rfl 32 (arr (y22 p0 p1 p2 cn)) _ Z7.out hul rfl hil ?_)
    | (go_at_call 15; (refine (toYard_walk p0 p1 p2 cn _).mono ?_); rintro e w8 ⟨rfl, hb⟩; have B8 := Aside0.mk (below_step B7.out hb); have Y8 := Aside0.mk ((hb.block _ (lt_of_block Y7.out)).trans Y7.out); have HX8 := Aside0.mk (Kd.C_below HX7.out.2.2 hb); clear hb)
    | (go_at_call 30; (refine (HIP.out X1 d1 _ HX7.out.2.1 HX8.out).mono ?_); rintro e w9 ⟨rfl, hb⟩; have B9 := Aside0.mk (below_step B8.out hb); have Y9 := Aside0.mk ((hb.block _ (lt_of_block Y8.out)).trans Y8.out); have HX9 := Aside0.mk (Kd.C_below HX8.out hb); clear hb)
    | ((with_reducible refine gate_store (t := 25) (p := 10) rfl ?_); refine store_row_event rfl rfl 25 (.tmp 10) (.tmp 34) rfl w9.heap.size (arr (y22 q0 q1 q2 cx)) rfl rfl 25 _ (blk_new w9 _) hi rfl (by kernel_rfl) ?_; intro w10 hh ho; have U10 := Aside0.mk hh; have W10 := Aside0.mk (show Below w9.heap.size w9 w10 from ho.below (below_alloc (Below.refl _ _) _) (Nat.le_refl _)); have Y10 := Aside0.mk ((W10.out.block _ (lt_of_block Y9.out)).trans Y9.out); have B10 := Aside0.mk (below_step B9.out W10.out); have HX10 := Aside0.mk (Kd.C_below HX9.out W10.out); clear hh ho)
    | ((with_reducible refine gate_dst (N := 37) rfl ?_); refine load_row_event rfl 25 (.tmp 10) rfl w9.heap.size rfl 25 (arr (y22 q0 q1 q2 cx)) _ U10.out hu rfl hi ?_)
    | ((with_reducible refine gate_dst (N := 38) rfl ?_); refine load_row_event rfl 25 (.tmp 6) rfl w5.heap.size rfl 25 (arr (y22 q0 q1 q2 cx)) _ Y10.out hu rfl hi ?_)
    | (go_at_call 12; (refine (eqYard_selfD q0 q1 q2 cx _).mono ?_); rintro e w11 ⟨rfl, hb⟩; have B11 := Aside0.mk (below_step B10.out hb); have HX11 := Aside0.mk (Kd.C_below HX10.out hb); clear hb)
    | (go_at_call 29; (refine (laws_toActS.calls k1 A c l0 la _ (Kd.C_below CW.out B11.out) HC.out HTA.out).mono ?_); rintro e w12 ⟨v_, rfl, ho, hb⟩; obtain ⟨X2, d2, e2⟩ := Kd.R_slice ho; subst e2; have HY0 := Aside0.mk (Kd.R_reads' ho); have B12 := Aside0.mk (below_step B11.out hb); have HX12 := Aside0.mk (Kd.C_below HX11.out hb); clear ho hb)
    | (go_at_call 31; (refine (laws_eqActS.calls k2 X1 d1 la X2 d2 la true _ HX12.out HX7.out.2.1 HY0.out.2.2 HY0.out.2.1 HEQ.out).mono ?_); rintro e w13 ⟨rfl, hb⟩; have B13 := Aside0.mk (below_step B12.out hb); clear hb))
  go_ret
  exact ⟨rfl, B13.out⟩

end Go.Proofs.Ythokeoocdkaffaa.Pure
