/- DoAct: the program and the reference tell the same of every yard and act. -/
import Derived.Test.YthokeoocdkaffaaXkHdo
import Derived.Test.YthokeoocdkaffaaXk7
import Derived.Test.YthokeoocdkaffaaXkHeqy
import Derived.Test.YthokeoocdkaffaaXkHtoy
import Derived.Test.YthokeoocdkaffaaXkHgood
import Derived.Test.YthokeoocdkaffaaXkHparts
import Derived.Test.YthokeoocdkaffaaXkHarr7
import Derived.Test.YthokeoocdkaffaaXkHpart
import Derived.Test.YthokeoocdkaffaaXk1
import Derived.Test.YthokeoocdkaffaaXk3
import Derived.Test.YthokeoocdkaffaaXk4
import Derived.Test.YthokeoocdkaffaaXk6
import Derived.Test.YthokeoocdkaffaaXk5
import Derived.Test.YthokeoocdkaffaaXkHdelete
import Derived.Test.YthokeoocdkaffaaXk2
import Derived.Test.YthokeoocdkaffaaPk
import Derived.OneCell
import Derived.Shelf.Abstract
import Derived.Outline
import Derived.Deep.RegionHeld3
import Derived.BigQuiet
import Derived.Deep.QuietTactic
import Derived.RegionTactic
import Derived.BigRegion
set_option linter.unusedVariables false
set_option linter.unusedSimpArgs false
namespace Go.Proofs.Ythokeoocdkaffaa.Pure
open Go.RowKit Go.Proofs.Ythokeoocdkaffaa.Xk Go.Proofs.YthokeoocdkaffaaW.PrintWords Go.Proofs.YthokeoocdkaffaaW.PrintLast Go.Proofs.Ythokeoocdkaffaa.Pk

theorem ev_l1In' (a b c : Int) : spec_l1In.f a b c = some (decide (b ≤ a) && decide (a ≤ c)) := by
  unfold spec_l1In.f
  by_cases h : b ≤ a
  · rw [if_pos h, decide_eq_true h, Bool.true_and]
  · rw [if_neg h, decide_eq_false h, Bool.false_and]
/-! ### is a list an order? -/
theorem ev_l1Has_l0 (l : List Int) (x : Int) (hl : l.length < 9223372036854775807) (d : Nat) : ∀ j : Nat, j + d = l.length → Ev (fun k => spec_l1Has.l0 k l x (j : Int)) ((l.drop j).contains x) := by
  induction d with
  | zero =>
    intro j hj
    have c : ¬ (j : Int) < (l.length : Int) := by omega
    rw [List.drop_of_length_le (by omega)]
    exact Ev.step (fun k => by simp only [spec_l1Has.l0, c, ↓reduceIte] <;> rfl) (Ev.now _)
  | succ d ih =>
    intro j hj
    have c : (j : Int) < (l.length : Int) := by omega
    have c0 : 0 ≤ (j : Int) := by omega
    have e1 : wrap64 ((j : Int) + 1) = ((j + 1 : Nat) : Int) := wj (by omega)
    rw [rd_drop l j (by omega), List.contains_cons]
    by_cases h : rd l (j : Int) = x
    · have : (x == rd l (j : Int)) = true := by rw [h]; exact beq_self_eq_true x
      rw [this, Bool.true_or]
      exact Ev.step (fun k => by simp only [spec_l1Has.l0, c, c0, h, ↓reduceIte] <;> rfl) (Ev.now _)
    · have : (x == rd l (j : Int)) = false := beq_eq_false_iff_ne.2 (fun e => h e.symm)
      rw [this, Bool.false_or]
      exact Ev.step (fun k => by simp only [spec_l1Has.l0, c, c0, h, e1, ↓reduceIte]) (ih (j + 1) (by omega))
theorem ev_l1Has (l : List Int) (x : Int) (hl : l.length < 9223372036854775807) : Ev (fun k => spec_l1Has.f k l x) (l.contains x) := by
  have := ev_l1Has_l0 l x hl l.length 0 (by omega)
  rw [List.drop_zero] at this
  exact this
theorem ev_l2Order_l0 (l : List Int) (hl : l.length ≤ 7) (d : Nat) : ∀ j : Nat, j + d = l.length → Ev (fun k => spec_l2Order.l0 k l (j : Int)) (chk l.length (l.take j) (l.drop j)) := by
  induction d with
  | zero =>
    intro j hj
    have c : ¬ (j : Int) < (l.length : Int) := by omega
    rw [List.drop_of_length_le (by omega)]
    exact Ev.step (fun k => by simp only [spec_l2Order.l0, c, ↓reduceIte] <;> rfl) (Ev.now _)
  | succ d ih =>
    intro j hj
    have c : (j : Int) < (l.length : Int) := by omega
    have c0 : 0 ≤ (j : Int) := by omega
    have c1 : (j : Int) ≤ (l.length : Int) := by omega
    have e1 : wrap64 ((j : Int) + 1) = ((j + 1 : Nat) : Int) := wj (by omega)
    rw [rd_drop l j (by omega), chk, ← take_succ l j (by omega)]
    by_cases h : (decide (1 ≤ rd l (j : Int)) && decide (rd l (j : Int) ≤ (l.length : Int))) = true
    · rw [h, Bool.true_and]
      refine Ev.step (f := fun k => (spec_l1Has.f k (l.take j) (rd l (j : Int))).bind fun t => if t = true then some false else spec_l2Order.l0 k l ((j + 1 : Nat) : Int)) (fun k => by simp only [spec_l2Order.l0, c, c0, c1, ev_l1In', h, e1, Option.bind_some, Int.toNat_natCast, ↓reduceIte]) ?_
      refine Ev.bind (ev_l1Has (l.take j) _ (by rw [List.length_take]; omega)) ?_
      cases hc : (l.take j).contains (rd l (j : Int)) with
      | true =>
        simp only [↓reduceIte, Bool.not_true, Bool.false_and]
        exact Ev.now _
      | false =>
        simp only [Bool.false_eq_true, ↓reduceIte, Bool.not_false, Bool.true_and]
        exact ih (j + 1) (by omega)
    · have h' := Bool.eq_false_iff.2 h
      rw [h', Bool.false_and, Bool.false_and]
      exact Ev.step (fun k => by simp only [spec_l2Order.l0, c, c0, ev_l1In', h', Option.bind_some, Bool.false_eq_true, ↓reduceIte] <;> rfl) (Ev.now _)
theorem ev_l2Order (l : List Int) : Ev (fun k => spec_l2Order.f k l) (ordB l) := by
  unfold spec_l2Order.f ordB
  simp only [ev_l1In', Option.bind_some]
  by_cases h1 : 1 ≤ l.length
  · have g1 : (1 : Int) ≤ (l.length : Int) := by omega
    by_cases h7 : l.length ≤ 7
    · have g7 : (l.length : Int) ≤ 7 := by omega
      have := ev_l2Order_l0 l h7 l.length 0 (by omega)
      simp only [h1, h7, g1, g7, decide_true, Bool.and_true, Bool.true_and, ↓reduceIte]
      rw [List.take_zero, List.drop_zero] at this
      exact this
    · have g7 : ¬ (l.length : Int) ≤ 7 := by omega
      simp only [h7, g7, decide_false, Bool.and_false, Bool.false_and, Bool.false_eq_true, ↓reduceIte]
      exact Ev.now _
  · have g1 : ¬ (1 : Int) ≤ (l.length : Int) := by omega
    simp only [h1, g1, decide_false, Bool.false_and, Bool.false_eq_true, ↓reduceIte]
    exact Ev.now _
theorem ev_Index_l0 (l : List Int) (x : Int) (hl : l.length < 9223372036854775807) (d : Nat) : ∀ j : Nat, j + d = l.length → ∃ r : Int, Ev (fun k => slices_Index_int_int.l0 k l x (l.length : Int) (j : Int)) r ∧ decide (r ≥ 0) = (l.drop j).contains x := by
  induction d with
  | zero =>
    intro j hj
    have c : ¬ (j : Int) < (l.length : Int) := by omega
    rw [List.drop_of_length_le (by omega)]
    exact ⟨-1, Ev.step (fun k => by simp only [slices_Index_int_int.l0, c, ↓reduceIte] <;> rfl) (Ev.now _), rfl⟩
  | succ d ih =>
    intro j hj
    have c : (j : Int) < (l.length : Int) := by omega
    have c0 : 0 ≤ (j : Int) := by omega
    have e1 : wrap64 ((j : Int) + 1) = ((j + 1 : Nat) : Int) := wj (by omega)
    rw [rd_drop l j (by omega), List.contains_cons]
    by_cases h : x = rd l (j : Int)
    · have : (x == rd l (j : Int)) = true := beq_iff_eq.2 h
      rw [this, Bool.true_or]
      exact ⟨j, Ev.step (fun k => by simp only [slices_Index_int_int.l0, c, c0, ↓reduceIte]; rw [if_pos h]) (Ev.now _), by simp⟩
    · have : (x == rd l (j : Int)) = false := beq_eq_false_iff_ne.2 h
      rw [this, Bool.false_or]
      obtain ⟨r, hr, hd⟩ := ih (j + 1) (by omega)
      exact ⟨r, Ev.step (fun k => by simp only [slices_Index_int_int.l0, c, c0, h, e1, ↓reduceIte]) hr, hd⟩
theorem ev_Contains (l : List Int) (x : Int) (hl : l.length < 9223372036854775807) : Ev (fun k => slices_Contains_int_int.f k l x) (l.contains x) := by
  obtain ⟨r, hr, hd⟩ := ev_Index_l0 l x hl l.length 0 (by omega)
  rw [List.drop_zero] at hd
  unfold slices_Contains_int_int.f slices_Index_int_int.f
  refine Ev.bind hr ?_
  rw [hd]
  exact Ev.now _
theorem ev_isOrder_l0 (l : List Int) (hl : l.length ≤ 7) (d : Nat) : ∀ j : Nat, j + d = l.length → Ev (fun k => impl_isOrder.l0 k l l (l.length : Int) (j : Int)) (chk l.length (l.take j) (l.drop j)) := by
  induction d with
  | zero =>
    intro j hj
    have c : ¬ (j : Int) < (l.length : Int) := by omega
    rw [List.drop_of_length_le (by omega)]
    exact Ev.step (fun k => by simp only [impl_isOrder.l0, c, ↓reduceIte] <;> rfl) (Ev.now _)
  | succ d ih =>
    intro j hj
    have c : (j : Int) < (l.length : Int) := by omega
    have c0 : 0 ≤ (j : Int) := by omega
    have c1 : (j : Int) ≤ (l.length : Int) := by omega
    have e1 : wrap64 ((j : Int) + 1) = ((j + 1 : Nat) : Int) := wj (by omega)
    rw [rd_drop l j (by omega), chk, ← take_succ l j (by omega)]
    by_cases h1 : 1 ≤ rd l (j : Int)
    · have g1 : ¬ rd l (j : Int) < 1 := by omega
      by_cases h2 : rd l (j : Int) ≤ (l.length : Int)
      · have g2 : ¬ rd l (j : Int) > (l.length : Int) := by omega
        simp only [h1, h2, decide_true, Bool.true_and]
        refine Ev.step (f := fun k => (slices_Contains_int_int.f k (l.take j) (rd l (j : Int))).bind fun t => if t = true then some false else impl_isOrder.l0 k l l (l.length : Int) ((j + 1 : Nat) : Int)) (fun k => by simp only [impl_isOrder.l0, c, c0, c1, g1, g2, e1, Int.toNat_natCast, ↓reduceIte]) ?_
        refine Ev.bind (ev_Contains (l.take j) _ (by rw [List.length_take]; omega)) ?_
        cases hc : (l.take j).contains (rd l (j : Int)) with
        | true =>
          simp only [↓reduceIte, Bool.not_true, Bool.false_and]
          exact Ev.now _
        | false =>
          simp only [Bool.false_eq_true, ↓reduceIte, Bool.not_false, Bool.true_and]
          exact ih (j + 1) (by omega)
      · have g2 : rd l (j : Int) > (l.length : Int) := by omega
        simp only [h2, decide_false, Bool.and_false, Bool.false_and]
        exact Ev.step (fun k => by simp only [impl_isOrder.l0, c, c0, g1, g2, ↓reduceIte] <;> rfl) (Ev.now _)
    · have g1 : rd l (j : Int) < 1 := by omega
      simp only [h1, decide_false, Bool.false_and]
      exact Ev.step (fun k => by simp only [impl_isOrder.l0, c, c0, g1, ↓reduceIte] <;> rfl) (Ev.now _)
theorem ev_isOrder (l : List Int) : Ev (fun k => impl_isOrder.f k l) (ordB l) := by
  unfold impl_isOrder.f ordB
  by_cases h1 : 1 ≤ l.length
  · have g1 : ¬ (l.length : Int) < 1 := by omega
    by_cases h7 : l.length ≤ 7
    · have g7 : ¬ (l.length : Int) > 7 := by omega
      have := ev_isOrder_l0 l h7 l.length 0 (by omega)
      simp only [h1, h7, g1, g7, decide_true, decide_false, Bool.true_and, ↓reduceIte]
      refine Ev.step (fun k => by simp only [impl_isOrder.j0, Bool.false_eq_true, ↓reduceIte] <;> rfl) ?_
      rw [List.take_zero, List.drop_zero] at this
      exact this
    · have g7 : (l.length : Int) > 7 := by omega
      simp only [h7, g1, g7, decide_true, decide_false, Bool.and_false, Bool.false_and, ↓reduceIte]
      exact Ev.step (fun k => by simp only [impl_isOrder.j0, ↓reduceIte] <;> rfl) (Ev.now _)
  · have g1 : (l.length : Int) < 1 := by omega
    simp only [h1, g1, decide_false, Bool.false_and, ↓reduceIte]
    exact Ev.step (fun k => by simp only [impl_isOrder.j0, ↓reduceIte] <;> rfl) (Ev.now _)
/-! ### the sorted order -/
theorem iota_get (n i : Nat) (h : i < n) : rd (iota 1 n) (i : Int) = 1 + (i : Int) := rd_iota 1 n i h
theorem ev_l2Sorted (n : Nat) (hn : n ≤ 1000) : Ev (fun k => spec_l2Sorted.f k (n : Int)) (iota 1 n) := by
  have go : ∀ (m j : Nat), j + m = n → Ev (fun k => spec_l2Sorted.l0 k (n : Int) (iota 1 j) (1 + (j : Int))) (iota 1 n) := by
    intro m
    induction m with
    | zero =>
      intro j hj
      have c : ¬ 1 + (j : Int) ≤ (n : Int) := by omega
      obtain rfl : j = n := by omega
      exact Ev.step (f := fun _ => some (iota 1 j)) (fun k => by simp only [spec_l2Sorted.l0, c, ↓reduceIte]) (Ev.now _)
    | succ m ih =>
      intro j hj
      have c : 1 + (j : Int) ≤ (n : Int) := by omega
      have lim : (iota 1 j).length < 17592186044416 := by rw [iota_length]; omega
      have e := Aside0.mk (show wrap64 (1 + (j : Int) + 1) = 1 + ((j + 1 : Nat) : Int) from by rw [wr (by omega) (by omega)]; omega)
      refine Ev.step (fun k => ?_) (ih (j + 1) (by omega))
      simp only [spec_l2Sorted.l0, c, lim, e.out, ↓reduceIte]
      rw [iota_succ]
  have := go n 0 (by omega)
  exact this
theorem ev_sorted (n : Nat) (hn : n ≤ 1000) : Ev (fun k => impl_sorted.f k (n : Int)) (iota 1 n) := by
  have go : ∀ (m j : Nat), j + m = n → Ev (fun k => impl_sorted.l0 k (iota 1 j) (n : Int) (j : Int)) (iota 1 n) := by
    intro m
    induction m with
    | zero =>
      intro j hj
      have c : ¬ (j : Int) < (n : Int) := by omega
      obtain rfl : j = n := by omega
      exact Ev.step (f := fun _ => some (iota 1 j)) (fun k => by simp only [impl_sorted.l0, c, ↓reduceIte]) (Ev.now _)
    | succ m ih =>
      intro j hj
      have c : (j : Int) < (n : Int) := by omega
      have lim : (iota 1 j).length < 17592186044416 := by rw [iota_length]; omega
      have e := Aside0.mk (show wrap64 ((j : Int) + 1) = ((j + 1 : Nat) : Int) from wj (by omega))
      refine Ev.step (fun k => ?_) (ih (j + 1) (by omega))
      simp only [impl_sorted.l0, c, lim, e.out, ↓reduceIte]
      rw [iota_succ, show (1 : Int) + (j : Int) = ((j + 1 : Nat) : Int) by omega]
  exact go n 0 (by omega)
/-! ### all orders of so many numbers -/
def fct : Nat → Nat
  | 0 => 1
  | n + 1 => (n + 1) * fct n
theorem fct_pos : ∀ n, 0 < fct n
  | 0 => by decide
  | n + 1 => Nat.mul_pos (by omega) (fct_pos n)
theorem ev_factorial (m : Nat) (h : m ≤ 7) : Ev (fun k => impl_factorial.f k (m : Int)) (fct m : Int) := by
  have hm : m = 0 ∨ m = 1 ∨ m = 2 ∨ m = 3 ∨ m = 4 ∨ m = 5 ∨ m = 6 ∨ m = 7 := by omega
  rcases hm with rfl | rfl | rfl | rfl | rfl | rfl | rfl | rfl <;> exact Ev.of (fun k => impl_factorial.mono _ k) (k := 20) (by decide +kernel)
theorem fct_le : ∀ m, m ≤ 7 → fct m ≤ 5040 := by
  intro m h
  have hm : m = 0 ∨ m = 1 ∨ m = 2 ∨ m = 3 ∨ m = 4 ∨ m = 5 ∨ m = 6 ∨ m = 7 := by omega
  rcases hm with rfl | rfl | rfl | rfl | rfl | rfl | rfl | rfl <;> decide
/-- The order with a rank, out of the numbers that are left. -/
def unr : Nat → List Int → Nat → List Int
  | 0, _, _ => []
  | m + 1, left, k => rd left ((k / fct m : Nat) : Int) :: unr m (left.eraseIdx (k / fct m)) (k % fct m)
theorem unr_len : ∀ m left k, (unr m left k).length = m
  | 0, _, _ => rfl
  | m + 1, left, k => by rw [unr, List.length_cons, unr_len m]
theorem unr_perm : ∀ (m : Nat) (left : List Int) (k : Nat), left.length = m → k < fct m → (unr m left k).Perm left
  | 0, left, k, hl, _ => by
    obtain rfl := List.eq_nil_of_length_eq_zero hl
    exact List.Perm.refl _
  | m + 1, left, k, hl, hk => by
    have hq : k / fct m < left.length := by
      rw [hl]
      exact Nat.div_lt_of_lt_mul (by rw [Nat.mul_comm]; exact hk)
    have ih := unr_perm m (left.eraseIdx (k / fct m)) (k % fct m) (by rw [List.length_eraseIdx_of_lt hq]; omega) (Nat.mod_lt _ (fct_pos m))
    rw [unr, rd_get left _ hq]
    refine (List.Perm.cons _ ih).trans ?_
    rw [List.eraseIdx_eq_take_drop_succ]
    have h1 : left = left.take (k / fct m) ++ left[k / fct m] :: left.drop (k / fct m + 1) := by
      rw [← List.drop_eq_getElem_cons hq, List.take_append_drop]
    exact (List.perm_middle.symm.trans (by rw [← h1]))
theorem ev_orderAt0 : ∀ (m : Nat) (left out : List Int) (k : Nat), left.length = m → m ≤ 7 → k < fct m → out.length + m ≤ 100 → Ev (fun K => impl_orderAt.l0 K (m + 1) (k : Int) left out) (out ++ unr m left k)
  | 0, left, out, k, hl, _, _, _ => by
    have c : ¬ 0 < left.length := by omega
    rw [unr, List.append_nil]
    exact Ev.congr (f := fun _ => some out) (fun K => by simp only [impl_orderAt.l0, c, ↓reduceIte]) (Ev.now _)
  | m + 1, left, out, k, hl, hm, hk, ho => by
    have c : 0 < left.length := by omega
    have hq : k / fct m < left.length := by
      rw [hl]
      exact Nat.div_lt_of_lt_mul (by rw [Nat.mul_comm]; exact hk)
    have hkb := fct_le (m + 1) hm
    have hp := fct_pos m
    have hdk : k / fct m ≤ k := Nat.div_le_self _ _
    obtain ⟨q, hqe⟩ : ∃ q : Nat, q = k / fct m := ⟨_, rfl⟩
    rw [← hqe] at hq hdk
    have HQE := Aside0.mk hqe
    clear hqe
    have e1 := Aside0.mk (show wrap64 ((left.length : Int) - 1) = (m : Int) from by rw [wr (by omega) (by omega)]; omega)
    have e2 := Aside0.mk (show wrap64 (Int.tdiv (k : Int) (fct m : Int)) = (q : Int) from by rw [← Int.ofNat_tdiv, ← HQE.out, wr (by omega) (by omega)])
    have e3 := Aside0.mk (show Int.tmod (k : Int) (fct m : Int) = ((k % fct m : Nat) : Int) from (Int.ofNat_tmod _ _).symm)
    have n0 : ¬ (fct m : Int) = 0 := by omega
    have c2 : 0 ≤ (q : Int) ∧ (q : Int) < (left.length : Int) ∧ out.length < 1000 := ⟨by omega, by omega, by omega⟩
    have ih := ev_orderAt0 m (left.eraseIdx q) (out ++ [rd left (q : Int)]) (k % fct m) (by rw [List.length_eraseIdx_of_lt hq]; omega) (by omega) (Nat.mod_lt _ hp) (by rw [List.length_append, List.length_singleton]; omega)
    rw [unr, ← HQE.out, List.append_cons]
    refine Ev.congr (f := fun K => (impl_factorial.f K (m : Int)).bind fun p => if p = 0 then none else if 0 ≤ wrap64 (Int.tdiv (k : Int) p) ∧ wrap64 (Int.tdiv (k : Int) p) < (left.length : Int) ∧ out.length < 1000 then impl_orderAt.l0 K (m + 1) (Int.tmod (k : Int) p) (left.eraseIdx (wrap64 (Int.tdiv (k : Int) p)).toNat) (out ++ [rd left (wrap64 (Int.tdiv (k : Int) p))]) else none) (fun K => ?_) (Ev.bind (ev_factorial m (by omega)) ?_)
    · rw [impl_orderAt.l0, if_pos c, e1.out]
    · simp only [if_neg n0, e2.out, e3.out, if_pos c2, Int.toNat_natCast]
      exact ih
theorem ev_orderAt (n k : Nat) (h1 : 1 ≤ n) (h7 : n ≤ 7) (hk : k < fct n) : Ev (fun K => impl_orderAt.f K (n : Int) (k : Int)) (unr n (iota 1 n) k) := by
  unfold impl_orderAt.f
  refine Ev.bind (ev_sorted n (by omega)) ?_
  have c : 0 < (iota 1 n).length := by rw [iota_length]; omega
  simp only [if_pos c]
  have := ev_orderAt0 n (iota 1 n) [] k (iota_length _ _) h7 hk (by simp; omega)
  rw [List.nil_append] at this
  rw [iota_length]
  exact this
theorem ev_l2Ways (m : Nat) (h : m ≤ 7) : Ev (fun k => spec_l2Ways.f k (m : Int)) (fct m : Int) := by
  have hm : m = 0 ∨ m = 1 ∨ m = 2 ∨ m = 3 ∨ m = 4 ∨ m = 5 ∨ m = 6 ∨ m = 7 := by omega
  rcases hm with rfl | rfl | rfl | rfl | rfl | rfl | rfl | rfl <;> exact Ev.of (fun k => spec_l2Ways.mono _ k) (k := 20) (by decide +kernel)
theorem ev_l2At0 : ∀ (m : Nat) (left out : List Int) (k : Nat), left.length = m → m ≤ 7 → k < fct m → out.length + m ≤ 100 → Ev (fun K => spec_l2At.l0 K (k : Int) out left) (out ++ unr m left k)
  | 0, left, out, k, hl, _, _, _ => by
    have c : ¬ (left.length : Int) > 0 := by omega
    rw [unr, List.append_nil]
    exact Ev.step (f := fun _ => some out) (fun K => by simp only [spec_l2At.l0, c, ↓reduceIte]) (Ev.now _)
  | m + 1, left, out, k, hl, hm, hk, ho => by
    have c : (left.length : Int) > 0 := by omega
    have hq : k / fct m < left.length := by
      rw [hl]
      exact Nat.div_lt_of_lt_mul (by rw [Nat.mul_comm]; exact hk)
    have hkb := fct_le (m + 1) hm
    have hp := fct_pos m
    have hdk : k / fct m ≤ k := Nat.div_le_self _ _
    obtain ⟨q, hqe⟩ : ∃ q : Nat, q = k / fct m := ⟨_, rfl⟩
    rw [← hqe] at hq hdk
    have HQE := Aside0.mk hqe
    clear hqe
    have e1 := Aside0.mk (show wrap64 ((left.length : Int) - 1) = (m : Int) from by rw [wr (by omega) (by omega)]; omega)
    have e2 := Aside0.mk (show wrap64 (Int.tdiv (k : Int) (fct m : Int)) = (q : Int) from by rw [← Int.ofNat_tdiv, ← HQE.out, wr (by omega) (by omega)])
    have e3 := Aside0.mk (show Int.tmod (k : Int) (fct m : Int) = ((k % fct m : Nat) : Int) from (Int.ofNat_tmod _ _).symm)
    have e4 := Aside0.mk (show wrap64 ((q : Int) + 1) = ((q + 1 : Nat) : Int) from wj (by omega))
    have n0 : ¬ (fct m : Int) = 0 := by omega
    have c1 : 0 ≤ (q : Int) := by omega
    have c2 : (q : Int) < (left.length : Int) := by omega
    have c3 : (q : Int) ≤ (left.length : Int) := by omega
    have c4 : 0 ≤ ((q + 1 : Nat) : Int) := by omega
    have c5 : ((q + 1 : Nat) : Int) ≤ (left.length : Int) := by omega
    have c6 : out.length < 17592186044416 := by omega
    have own : spec_l1Own.f (left.take q) = some (left.take q) := by
      unfold spec_l1Own.f
      have lim : ([] : List Int).length + (left.take q).length < 17592186044416 := by simp; omega
      simp only [Option.bind_some, lim, ↓reduceIte, List.nil_append]
    have c7 : (left.take q).length + (left.drop (q + 1)).length < 17592186044416 := by rw [List.length_take, List.length_drop]; omega
    have ih := ev_l2At0 m (left.eraseIdx q) (out ++ [rd left (q : Int)]) (k % fct m) (by rw [List.length_eraseIdx_of_lt hq]; omega) (by omega) (Nat.mod_lt _ hp) (by rw [List.length_append, List.length_singleton]; omega)
    rw [unr, ← HQE.out, List.append_cons]
    refine Ev.step (f := fun K => (spec_l2Ways.f K (m : Int)).bind fun t802 => (if t802 = 0 then (none) else (if 0 ≤ (wrap64 (Int.tdiv (k : Int) t802)) then (if (wrap64 (Int.tdiv (k : Int) t802)) < (left.length : Int) then (if out.length < 17592186044416 then (if (wrap64 (Int.tdiv (k : Int) t802)) ≤ (left.length : Int) then ((spec_l1Own.f (left.take ((wrap64 (Int.tdiv (k : Int) t802)) : Int).toNat)).bind fun t811 => (if 0 ≤ (wrap64 ((wrap64 (Int.tdiv (k : Int) t802)) + 1)) then (if (wrap64 ((wrap64 (Int.tdiv (k : Int) t802)) + 1)) ≤ (left.length : Int) then ((some (left.drop ((wrap64 ((wrap64 (Int.tdiv (k : Int) t802)) + 1)) : Int).toNat : List Int)).bind fun y814 => (if t811.length + y814.length < 17592186044416 then (spec_l2At.l0 K (Int.tmod (k : Int) t802) (out ++ [rd left (wrap64 (Int.tdiv (k : Int) t802))]) (t811 ++ y814)) else (none))) else (none)) else (none))) else (none)) else (none)) else (none)) else (none))))
      (fun K => by simp only [spec_l2At.l0, c, e1.out, ↓reduceIte]) (Ev.bind (ev_l2Ways m (by omega)) ?_)
    simp only [if_neg n0, e2.out, e3.out, e4.out, c1, c2, c3, c4, c5, c6, own, c7, Int.toNat_natCast, Option.bind_some, ↓reduceIte]
    rw [← List.eraseIdx_eq_take_drop_succ]
    exact ih
theorem ev_l2At (n k : Nat) (h7 : n ≤ 7) (hk : k < fct n) : Ev (fun K => spec_l2At.f K (n : Int) (k : Int)) (unr n (iota 1 n) k) := by
  unfold spec_l2At.f
  refine Ev.bind (ev_l2Sorted n (by omega)) ?_
  have := ev_l2At0 n (iota 1 n) [] k (iota_length _ _) h7 hk (by simp; omega)
  rw [List.nil_append] at this
  exact this
theorem ev_isSize (a : Int) : impl_isSize.f a = some (decide (1 ≤ a) && decide (a ≤ 7)) := by
  unfold impl_isSize.f
  by_cases h : 1 ≤ a
  · rw [if_pos h, decide_eq_true h, Bool.true_and]
  · rw [if_neg h, decide_eq_false h, Bool.false_and]
theorem eqB_zr (p : Nat → Int) : eqB p = zr p := by
  by_cases h0 : p 0 = 0
  · have ht : tw p = [] := by simp [tw, m7, h0]
    have hz : zr p = !([p 0, p 1, p 2, p 3, p 4, p 5, p 6].any (· != 0)) := by simp [zr, m7, h0]
    unfold eqB
    rw [ht, hz, Bool.eq_iff_iff]
    simp only [rd, Int.toNat_natCast, List.getD_cons_zero, List.getD_cons_succ, List.getD_nil, List.any_cons, List.any_nil, decide_eq_true_eq, Bool.not_eq_true', Bool.or_eq_false_iff, bne_eq_false_iff_eq, true_and, and_true]
    try first | omega | (constructor <;> intro h_ <;> simp_all <;> omega) | simp_all
  by_cases h1 : p 1 = 0
  · have ht : tw p = [p 0] := by simp [tw, m7, h0, h1]
    have hz : zr p = !([p 1, p 2, p 3, p 4, p 5, p 6].any (· != 0)) := by simp [zr, m7, h0, h1]
    unfold eqB
    rw [ht, hz, Bool.eq_iff_iff]
    simp only [rd, Int.toNat_natCast, List.getD_cons_zero, List.getD_cons_succ, List.getD_nil, List.any_cons, List.any_nil, decide_eq_true_eq, Bool.not_eq_true', Bool.or_eq_false_iff, bne_eq_false_iff_eq, true_and, and_true]
    try first | omega | (constructor <;> intro h_ <;> simp_all <;> omega) | simp_all
  by_cases h2 : p 2 = 0
  · have ht : tw p = [p 0, p 1] := by simp [tw, m7, h0, h1, h2]
    have hz : zr p = !([p 2, p 3, p 4, p 5, p 6].any (· != 0)) := by simp [zr, m7, h0, h1, h2]
    unfold eqB
    rw [ht, hz, Bool.eq_iff_iff]
    simp only [rd, Int.toNat_natCast, List.getD_cons_zero, List.getD_cons_succ, List.getD_nil, List.any_cons, List.any_nil, decide_eq_true_eq, Bool.not_eq_true', Bool.or_eq_false_iff, bne_eq_false_iff_eq, true_and, and_true]
    try first | omega | (constructor <;> intro h_ <;> simp_all <;> omega) | simp_all
  by_cases h3 : p 3 = 0
  · have ht : tw p = [p 0, p 1, p 2] := by simp [tw, m7, h0, h1, h2, h3]
    have hz : zr p = !([p 3, p 4, p 5, p 6].any (· != 0)) := by simp [zr, m7, h0, h1, h2, h3]
    unfold eqB
    rw [ht, hz, Bool.eq_iff_iff]
    simp only [rd, Int.toNat_natCast, List.getD_cons_zero, List.getD_cons_succ, List.getD_nil, List.any_cons, List.any_nil, decide_eq_true_eq, Bool.not_eq_true', Bool.or_eq_false_iff, bne_eq_false_iff_eq, true_and, and_true]
    try first | omega | (constructor <;> intro h_ <;> simp_all <;> omega) | simp_all
  by_cases h4 : p 4 = 0
  · have ht : tw p = [p 0, p 1, p 2, p 3] := by simp [tw, m7, h0, h1, h2, h3, h4]
    have hz : zr p = !([p 4, p 5, p 6].any (· != 0)) := by simp [zr, m7, h0, h1, h2, h3, h4]
    unfold eqB
    rw [ht, hz, Bool.eq_iff_iff]
    simp only [rd, Int.toNat_natCast, List.getD_cons_zero, List.getD_cons_succ, List.getD_nil, List.any_cons, List.any_nil, decide_eq_true_eq, Bool.not_eq_true', Bool.or_eq_false_iff, bne_eq_false_iff_eq, true_and, and_true]
    try first | omega | (constructor <;> intro h_ <;> simp_all <;> omega) | simp_all
  by_cases h5 : p 5 = 0
  · have ht : tw p = [p 0, p 1, p 2, p 3, p 4] := by simp [tw, m7, h0, h1, h2, h3, h4, h5]
    have hz : zr p = !([p 5, p 6].any (· != 0)) := by simp [zr, m7, h0, h1, h2, h3, h4, h5]
    unfold eqB
    rw [ht, hz, Bool.eq_iff_iff]
    simp only [rd, Int.toNat_natCast, List.getD_cons_zero, List.getD_cons_succ, List.getD_nil, List.any_cons, List.any_nil, decide_eq_true_eq, Bool.not_eq_true', Bool.or_eq_false_iff, bne_eq_false_iff_eq, true_and, and_true]
    try first | omega | (constructor <;> intro h_ <;> simp_all <;> omega) | simp_all
  by_cases h6 : p 6 = 0
  · have ht : tw p = [p 0, p 1, p 2, p 3, p 4, p 5] := by simp [tw, m7, h0, h1, h2, h3, h4, h5, h6]
    have hz : zr p = !([p 6].any (· != 0)) := by simp [zr, m7, h0, h1, h2, h3, h4, h5, h6]
    unfold eqB
    rw [ht, hz, Bool.eq_iff_iff]
    simp only [rd, Int.toNat_natCast, List.getD_cons_zero, List.getD_cons_succ, List.getD_nil, List.any_cons, List.any_nil, decide_eq_true_eq, Bool.not_eq_true', Bool.or_eq_false_iff, bne_eq_false_iff_eq, true_and, and_true]
    try first | omega | (constructor <;> intro h_ <;> simp_all <;> omega) | simp_all
  have ht : tw p = [p 0, p 1, p 2, p 3, p 4, p 5, p 6] := by simp [tw, m7, h0, h1, h2, h3, h4, h5, h6]
  have hz : zr p = true := by simp [zr, m7, h0, h1, h2, h3, h4, h5, h6]
  unfold eqB
  rw [ht, hz, Bool.eq_iff_iff]
  simp only [rd, Int.toNat_natCast, List.getD_cons_zero, List.getD_cons_succ, List.getD_nil, List.any_cons, List.any_nil, decide_eq_true_eq, Bool.not_eq_true', Bool.or_eq_false_iff, bne_eq_false_iff_eq, true_and, and_true]
  try first | omega | (constructor <;> intro h_ <;> simp_all <;> omega) | simp_all
/-- Both tell the same of a yard. -/
theorem both_yard (p0 p1 p2 : Nat → Int) (cn : Int) : ∃ (k1 k2 : Nat) (b : Bool), goodF k1 p0 p1 p2 cn = some b ∧ partsF k2 p0 p1 p2 cn = some b := by
  obtain ⟨K1, h1⟩ := ev_l2Order (allY p0 p1 p2)
  obtain ⟨K2, h2⟩ := ev_isOrder (allY p0 p1 p2)
  dsimp only at h1 h2
  refine ⟨K1, K2, ordB (allY p0 p1 p2) && eqB p0 && eqB p1 && eqB p2 && (decide (0 ≤ cn) && decide (cn ≤ 1000)), ?_, ?_⟩
  · unfold goodF
    rw [h1 K1 (Nat.le_refl _)]
    rfl
  · unfold partsF
    rw [h2 K2 (Nat.le_refl _)]
    simp only [Option.bind_some, eqB_zr]
    congr 1
    cases ordB (allY p0 p1 p2) <;> cases zr p0 <;> cases zr p1 <;> cases zr p2 <;> cases decide (0 ≤ cn) <;> cases decide (cn ≤ 1000) <;> rfl
/-! ### what an act does, in plain words -/
theorem chk_of' (n : Int) : ∀ (l pre : List Int), (∀ x ∈ l, 1 ≤ x ∧ x ≤ n) → (pre ++ l).Nodup → chk n pre l = true
  | [], _, _, _ => rfl
  | x :: t, pre, h, hn => by
    have hx := h x (by simp)
    have hnx : x ∉ pre := fun hp => by
      have := List.nodup_append.1 hn
      exact this.2.2 x hp x (by simp) rfl
    simp only [chk, Bool.and_eq_true, decide_eq_true_eq, Bool.not_eq_true', List.contains_eq_mem, decide_eq_false_iff_not]
    exact ⟨⟨⟨hx.1, hx.2⟩, hnx⟩, chk_of' n t (pre ++ [x]) (fun y hy => h y (by simp [hy])) (by rw [List.append_assoc]; exact hn)⟩
theorem iota_nodup' (n : Nat) : (iota 1 n).Nodup := by
  unfold iota
  rw [List.nodup_iff_pairwise_ne, List.pairwise_map]
  refine List.Pairwise.imp ?_ List.nodup_range
  intro a b hab h
  exact hab (by omega)
def ordP (aa bb : Int) : List Int × Bool := if 1 ≤ aa ∧ aa ≤ 7 ∧ 0 ≤ bb ∧ bb < (fct aa.toNat : Int) then (unr aa.toNat (iota 1 aa.toNat) bb.toNat, true) else ([], false)
theorem ev_specOrderAt (aa bb : Int) : Ev (fun k => spec_OrderAt.f k aa bb) (ordP aa bb) := by
  unfold spec_OrderAt.f ordP
  rw [ev_l1In']
  simp only [Option.bind_some]
  by_cases h : 1 ≤ aa ∧ aa ≤ 7
  · obtain ⟨h1, h7⟩ := h
    obtain ⟨m, rfl⟩ := Int.eq_ofNat_of_zero_le (show 0 ≤ aa by omega)
    have hm : m ≤ 7 := by omega
    have hf := fct_le m hm
    have hp := fct_pos m
    rw [decide_eq_true h1, decide_eq_true h7]
    simp only [Bool.and_self, ↓reduceIte, Int.toNat_natCast]
    refine Ev.bind (ev_l2Ways m hm) ?_
    simp only [ev_l1In', Option.bind_some]
    rw [wr (show -9223372036854775808 ≤ (fct m : Int) - 1 by omega) (by omega)]
    by_cases hb : 0 ≤ bb ∧ bb < (fct m : Int)
    · obtain ⟨hb0, hb1⟩ := hb
      obtain ⟨j, rfl⟩ := Int.eq_ofNat_of_zero_le hb0
      rw [decide_eq_true hb0, decide_eq_true (show (j : Int) ≤ (fct m : Int) - 1 by omega), if_pos ⟨h1, h7, hb0, hb1⟩]
      simp only [Bool.and_self, ↓reduceIte, Int.toNat_natCast]
      exact Ev.bind (ev_l2At m j hm (by omega)) (Ev.now _)
    · rw [if_neg (by rintro ⟨_, _, h3, h4⟩; exact hb ⟨h3, h4⟩)]
      have : (decide (0 ≤ bb) && decide (bb ≤ (fct m : Int) - 1)) = false := by
        rcases Classical.em (0 ≤ bb) with h3 | h3
        · rw [decide_eq_false (show ¬ bb ≤ (fct m : Int) - 1 from fun h4 => hb ⟨h3, by omega⟩), Bool.and_false]
        · rw [decide_eq_false h3, Bool.false_and]
      rw [this]
      simp only [Bool.false_eq_true, ↓reduceIte]
      exact Ev.now _
  · rw [if_neg (by rintro ⟨h1, h7, _⟩; exact h ⟨h1, h7⟩)]
    have : (decide (1 ≤ aa) && decide (aa ≤ 7)) = false := by
      rcases Classical.em (1 ≤ aa) with h3 | h3
      · rw [decide_eq_false (show ¬ aa ≤ 7 from fun h4 => h ⟨h3, h4⟩), Bool.and_false]
      · rw [decide_eq_false h3, Bool.false_and]
    rw [this]
    simp only [Bool.false_eq_true, ↓reduceIte]
    exact Ev.now _
theorem ev_implOrderAt (aa bb : Int) : Ev (fun k => impl_OrderAt.f k aa bb) (ordP aa bb) := by
  unfold impl_OrderAt.f ordP
  rw [ev_isSize]
  simp only [Option.bind_some]
  by_cases h : 1 ≤ aa ∧ aa ≤ 7
  · obtain ⟨h1, h7⟩ := h
    obtain ⟨m, rfl⟩ := Int.eq_ofNat_of_zero_le (show 0 ≤ aa by omega)
    have hm : m ≤ 7 := by omega
    rw [decide_eq_true h1, decide_eq_true h7]
    simp only [Bool.and_self, ↓reduceIte, Int.toNat_natCast]
    by_cases hb0 : bb < 0
    · rw [if_neg (by rintro ⟨_, _, h3, _⟩; omega)]
      simp only [if_pos hb0]
      exact Ev.now _
    · simp only [if_neg hb0]
      refine Ev.bind (ev_factorial m hm) ?_
      by_cases hb1 : bb ≥ (fct m : Int)
      · rw [if_neg (by rintro ⟨_, _, _, h4⟩; omega)]
        simp only [if_pos hb1]
        exact Ev.now _
      · obtain ⟨j, rfl⟩ := Int.eq_ofNat_of_zero_le (show 0 ≤ bb by omega)
        rw [if_pos ⟨h1, h7, by omega, by omega⟩]
        simp only [if_neg hb1, Int.toNat_natCast]
        exact Ev.bind (ev_orderAt m j (by omega) hm (by omega)) (Ev.now _)
  · rw [if_neg (by rintro ⟨h1, h7, _⟩; exact h ⟨h1, h7⟩)]
    have : (decide (1 ≤ aa) && decide (aa ≤ 7)) = false := by
      rcases Classical.em (1 ≤ aa) with h3 | h3
      · rw [decide_eq_false (show ¬ aa ≤ 7 from fun h4 => h ⟨h3, h4⟩), Bool.and_false]
      · rw [decide_eq_false h3, Bool.false_and]
    rw [this]
    simp only [Bool.false_eq_true, ↓reduceIte]
    exact Ev.now _
theorem seven_list (P : List Int → Prop) (h : ∀ a b c d e f g : Int, P [] ∧ P [a] ∧ P [a, b] ∧ P [a, b, c] ∧ P [a, b, c, d] ∧ P [a, b, c, d, e] ∧ P [a, b, c, d, e, f] ∧ P [a, b, c, d, e, f, g]) (l : List Int) (hl : l.length ≤ 7) : P l := by
  rcases l with _ | ⟨a, _ | ⟨b, _ | ⟨c, _ | ⟨d, _ | ⟨e, _ | ⟨f, _ | ⟨g, _ | ⟨i, t⟩⟩⟩⟩⟩⟩⟩⟩
  · exact (h 0 0 0 0 0 0 0).1
  · exact (h a 0 0 0 0 0 0).2.1
  · exact (h a b 0 0 0 0 0).2.2.1
  · exact (h a b c 0 0 0 0).2.2.2.1
  · exact (h a b c d 0 0 0).2.2.2.2.1
  · exact (h a b c d e 0 0).2.2.2.2.2.1
  · exact (h a b c d e f 0).2.2.2.2.2.2.1
  · exact (h a b c d e f g).2.2.2.2.2.2.2
  · simp at hl
theorem ev_specBack (l : List Int) (hl : l.length ≤ 7) : Ev (fun k => spec_l2Back.f k l) l.reverse := by
  refine Ev.of (fun k => spec_l2Back.mono _ k) (k := 12) ?_
  exact seven_list (fun l => spec_l2Back.f 12 l = some l.reverse) (fun a b c d e f g => ⟨by kernel_rfl, by kernel_rfl, by kernel_rfl, by kernel_rfl, by kernel_rfl, by kernel_rfl, by kernel_rfl, by kernel_rfl⟩) l hl
theorem ev_implBack (l : List Int) (hl : l.length ≤ 7) : Ev (fun k => impl_back.f k l) l.reverse := by
  refine Ev.of (fun k => impl_back.mono _ k) (k := 12) ?_
  exact seven_list (fun l => impl_back.f 12 l = some l.reverse) (fun a b c d e f g => ⟨by kernel_rfl, by kernel_rfl, by kernel_rfl, by kernel_rfl, by kernel_rfl, by kernel_rfl, by kernel_rfl, by kernel_rfl⟩) l hl
/-- The rows behind an act. -/
def rP (L0 L1 L2 : List Int) (kd aa bb : Int) : Option (List Int × List Int × List Int) :=
  if kd = 1 then (if L0.length = 0 then none else zfA aa bb (L0.drop 1, L1 ++ [rd L0 0], L2))
  else if kd = 2 then (if L1.length = 0 then none else zfA aa bb (L0, L1.take (L1.length - 1), L2 ++ [rd L1 ((L1.length : Int) - 1)]))
  else if kd = 3 then (if L1.length = 0 then none else zfA aa bb ([rd L1 ((L1.length : Int) - 1)] ++ L0, L1.take (L1.length - 1), L2))
  else if kd = 4 then (if L0.length < 2 then none else zfA aa bb (L0.reverse, L1, L2))
  else if kd = 5 then (if (ordP aa bb).2 = true then some ((ordP aa bb).1, [], []) else none)
  else none
theorem mkF_of {back : List Int → Option (List Int)} {ord : Int → Int → Option (List Int × Bool)} {L0 L1 L2 : List Int} {kd aa bb : Int} (hb : back L0 = some L0.reverse) (ho : ord aa bb = some (ordP aa bb)) : mkF back ord L0 L1 L2 kd aa bb = some (rP L0 L1 L2 kd aa bb) := by
  unfold mkF rP
  rw [hb, ho]
  by_cases h1 : kd = 1
  · rw [if_pos h1, if_pos h1]
  rw [if_neg h1, if_neg h1]
  by_cases h2 : kd = 2
  · rw [if_pos h2, if_pos h2]
  rw [if_neg h2, if_neg h2]
  by_cases h3 : kd = 3
  · rw [if_pos h3, if_pos h3]
  rw [if_neg h3, if_neg h3]
  by_cases h4 : kd = 4
  · rw [if_pos h4, if_pos h4]; rfl
  rw [if_neg h4, if_neg h4]
  by_cases h5 : kd = 5
  · rw [if_pos h5, if_pos h5]; rfl
  rw [if_neg h5, if_neg h5]
theorem ordB_perm {l m : List Int} (h : ordB l = true) (p : m.Perm l) : ordB m = true := by
  have hl := ordB_len h
  have hr := ordB_range h
  have hn := ordB_nodup h
  unfold ordB
  rw [p.length_eq, decide_eq_true hl.1, decide_eq_true hl.2]
  exact chk_of' _ m [] (fun x hx => hr x (p.mem_iff.1 hx)) (by rw [List.nil_append]; exact p.symm.nodup hn)
theorem zfA_some {aa bb : Int} {x y : List Int × List Int × List Int} (h : zfA aa bb x = some y) : x = y := by
  unfold zfA at h
  split at h
  · exact Option.some.inj h
  · cases h
theorem rd_last (m : List Int) (a : Int) : rd (m ++ [a]) (((m ++ [a]).length : Int) - 1) = a := by
  rw [show (((m ++ [a]).length : Int) - 1) = (m.length : Int) by simp, rd_nat]
  simp
theorem rP_ord {L0 L1 L2 : List Int} {kd aa bb : Int} {x : List Int × List Int × List Int} (h : ordB (L0 ++ L1 ++ L2) = true) (hx : rP L0 L1 L2 kd aa bb = some x) : ordB (x.1 ++ x.2.1 ++ x.2.2) = true := by
  unfold rP at hx
  by_cases h1 : kd = 1
  · rw [if_pos h1] at hx
    split at hx
    · cases hx
    · rename_i hz
      obtain rfl := zfA_some hx
      obtain ⟨a, t, rfl⟩ := List.exists_cons_of_length_pos (Nat.pos_of_ne_zero hz)
      refine ordB_perm h (List.perm_iff_count.2 fun c => ?_)
      show (t ++ (L1 ++ [a]) ++ L2).count c = _
      simp only [List.count_append, List.count_cons, List.count_nil]
      omega
  rw [if_neg h1] at hx
  by_cases h2 : kd = 2
  · rw [if_pos h2] at hx
    split at hx
    · cases hx
    · rename_i hz
      obtain rfl := zfA_some hx
      rcases snoc_cases L1 with rfl | ⟨m, a, rfl⟩
      · exact absurd rfl hz
      refine ordB_perm h (List.perm_iff_count.2 fun c => ?_)
      rw [rd_last]
      show (L0 ++ (m ++ [a]).take ((m ++ [a]).length - 1) ++ (L2 ++ [a])).count c = _
      rw [show (m ++ [a]).take ((m ++ [a]).length - 1) = m by simp]
      simp only [List.count_append, List.count_cons, List.count_nil]
      omega
  rw [if_neg h2] at hx
  by_cases h3 : kd = 3
  · rw [if_pos h3] at hx
    split at hx
    · cases hx
    · rename_i hz
      obtain rfl := zfA_some hx
      rcases snoc_cases L1 with rfl | ⟨m, a, rfl⟩
      · exact absurd rfl hz
      refine ordB_perm h (List.perm_iff_count.2 fun c => ?_)
      rw [rd_last]
      show ([a] ++ L0 ++ (m ++ [a]).take ((m ++ [a]).length - 1) ++ L2).count c = _
      rw [show (m ++ [a]).take ((m ++ [a]).length - 1) = m by simp]
      simp only [List.count_append, List.count_cons, List.count_nil]
      omega
  rw [if_neg h3] at hx
  by_cases h4 : kd = 4
  · rw [if_pos h4] at hx
    split at hx
    · cases hx
    · obtain rfl := zfA_some hx
      refine ordB_perm h (List.perm_iff_count.2 fun c => ?_)
      show (L0.reverse ++ L1 ++ L2).count c = _
      simp only [List.count_append, List.count_reverse]
  rw [if_neg h4] at hx
  by_cases h5 : kd = 5
  · rw [if_pos h5] at hx
    split at hx
    · rename_i ho
      obtain rfl := Option.some.inj hx
      unfold ordP at ho ⊢
      split at ho
      · rename_i hc
        obtain ⟨c1, c7, c0, cf⟩ := hc
        rw [if_pos ⟨c1, c7, c0, cf⟩]
        show ordB (unr aa.toNat (iota 1 aa.toNat) bb.toNat ++ [] ++ []) = true
        rw [List.append_nil, List.append_nil]
        have p := unr_perm aa.toNat (iota 1 aa.toNat) bb.toNat (iota_length _ _) (by omega)
        have hl : (unr aa.toNat (iota 1 aa.toNat) bb.toNat).length = aa.toNat := unr_len _ _ _
        unfold ordB
        rw [hl, decide_eq_true (show 1 ≤ aa.toNat by omega), decide_eq_true (show aa.toNat ≤ 7 by omega)]
        refine chk_of' _ _ [] (fun x hx => ?_) (by rw [List.nil_append]; exact p.symm.nodup (iota_nodup' _))
        have := p.mem_iff.1 hx
        obtain ⟨i, hi, rfl⟩ := List.mem_map.1 this
        have := List.mem_range.1 hi
        omega
      · cases ho
    · cases hx
  rw [if_neg h5] at hx
  cases hx
theorem tw_rdf (l : List Int) (hl : l.length ≤ 7) : (∀ x ∈ l, x ≠ 0) → tw (rdf l) = l := by
  refine seven_list (fun l => (∀ x ∈ l, x ≠ 0) → tw (rdf l) = l) (fun a b c d e f g => ?_) l hl
  refine ⟨?_, ?_, ?_, ?_, ?_, ?_, ?_, ?_⟩ <;> intro h <;> simp only [List.mem_cons, List.not_mem_nil, or_false, forall_eq_or_imp, forall_eq] at h <;> simp_all [tw, m7, rdf, rd]
theorem eqB_rdf (l : List Int) (hl : l.length ≤ 7) (h : ∀ x ∈ l, x ≠ 0) : eqB (rdf l) = true := by
  unfold eqB
  rw [tw_rdf l hl h]
  exact decide_eq_true ⟨rfl, rfl, rfl, rfl, rfl, rfl, rfl⟩
theorem good_of (k : Nat) (x : List Int × List Int × List Int) (cn : Int) (hk : spec_l2Order.f k (x.1 ++ x.2.1 ++ x.2.2) = some (ordB (x.1 ++ x.2.1 ++ x.2.2))) (h : ordB (x.1 ++ x.2.1 ++ x.2.2) = true) (h0 : 0 ≤ cn) (h1 : cn ≤ 1000) : goodF k (rdf x.1) (rdf x.2.1) (rdf x.2.2) (cn + 1) = some (!(cn == 1000)) := by
  have hl := (ordB_len h).2
  have hr := ordB_range h
  simp only [List.length_append] at hl
  have n0 : ∀ y ∈ x.1, y ≠ 0 := fun y hy h2 => by have := hr y (by simp [hy]); omega
  have n1 : ∀ y ∈ x.2.1, y ≠ 0 := fun y hy h2 => by have := hr y (by simp [hy]); omega
  have n2 : ∀ y ∈ x.2.2, y ≠ 0 := fun y hy h2 => by have := hr y (by simp [hy]); omega
  unfold goodF allY
  rw [tw_rdf _ (by omega) n0, tw_rdf _ (by omega) n1, tw_rdf _ (by omega) n2, hk, h, eqB_rdf _ (by omega) n0, eqB_rdf _ (by omega) n1, eqB_rdf _ (by omega) n2]
  simp only [Option.bind_some, Bool.and_self, Bool.true_and]
  congr 1
  rw [decide_eq_true (show 0 ≤ cn + 1 by omega), Bool.true_and]
  by_cases h2 : cn = 1000
  · subst h2; rfl
  · rw [decide_eq_true (show cn + 1 ≤ 1000 by omega), beq_eq_false_iff_ne.2 h2]; rfl
theorem doY_form (r : Option (List Int × List Int × List Int)) (b : Bool) (cn : Int) : ∃ (q0 q1 q2 : Nat → Int) (cx : Int), doY r b cn = y22 q0 q1 q2 cx := by
  unfold doY
  split
  · exact ⟨_, _, _, _, rfl⟩
  · exact ⟨_, _, _, _, rfl⟩
theorem both_DoAct (p0 p1 p2 : Nat → Int) (cn kd aa bb : Int) : ∃ (q0 q1 q2 : Nat → Int) (cx : Int) (bo : Bool),
    (∀ w : World, Calls Try.prog 24 #[.agg (arr (y22 p0 p1 p2 cn)), .agg #[.int .i64 kd, .int .i64 aa, .int .i64 bb]] w fun e w' => e = .returned (.tuple #[.agg (arr (y22 q0 q1 q2 cx)), .bool bo]) ∧ Below w.heap.size w w') ∧
    (∀ w : World, Calls Try.prog 26 #[.agg (arr (y22 p0 p1 p2 cn)), .agg #[.int .i64 kd, .int .i64 aa, .int .i64 bb]] w fun e w' => e = .returned (.tuple #[.agg (arr (y22 q0 q1 q2 cx)), .bool bo]) ∧ Below w.heap.size w w') := by
  obtain ⟨K1, e1⟩ := ev_l2Order (allY p0 p1 p2)
  obtain ⟨K2, e2⟩ := ev_isOrder (allY p0 p1 p2)
  obtain ⟨K3, e3⟩ := ev_specBack (tw p0) (tw_len p0)
  obtain ⟨K4, e4⟩ := ev_implBack (tw p0) (tw_len p0)
  obtain ⟨K5, e5⟩ := ev_specOrderAt aa bb
  obtain ⟨K6, e6⟩ := ev_implOrderAt aa bb
  obtain ⟨g, hg⟩ : ∃ g, g = (ordB (allY p0 p1 p2) && eqB p0 && eqB p1 && eqB p2 && (decide (0 ≤ cn) && decide (cn ≤ 1000))) := ⟨_, rfl⟩
  obtain ⟨r, hr⟩ : ∃ r, r = (if g = true then rP (tw p0) (tw p1) (tw p2) kd aa bb else none) := ⟨_, rfl⟩
  have hgt : g = true → ordB (allY p0 p1 p2) = true ∧ 0 ≤ cn ∧ cn ≤ 1000 := fun h => by
    rw [h] at hg
    have h2 := hg.symm
    simp only [Bool.and_eq_true, decide_eq_true_eq] at h2
    exact ⟨h2.1.1.1.1, h2.2.1, h2.2.2⟩
  have hrt : g = true → r = rP (tw p0) (tw p1) (tw p2) kd aa bb := fun h => by rw [hr, if_pos h]
  have hrf : g = false → r = none := fun h => by rw [hr, if_neg (by rw [h]; decide)]
  have hox : ∀ x, g = true → r = some x → ordB (x.1 ++ x.2.1 ++ x.2.2) = true := fun x h1 h2 => rP_ord (hgt h1).1 ((hrt h1).symm.trans h2)
  have hsome : ∃ K7, ∀ k, K7 ≤ k → ∀ x, r = some x → spec_l2Order.f k (x.1 ++ x.2.1 ++ x.2.2) = some (ordB (x.1 ++ x.2.1 ++ x.2.2)) := by
    cases hrr : r with
    | none => exact ⟨0, fun _ _ _ h => by cases h⟩
    | some x =>
      obtain ⟨K, e⟩ := ev_l2Order (x.1 ++ x.2.1 ++ x.2.2)
      exact ⟨K, fun k hk y hy => by cases hy; exact e k hk⟩
  obtain ⟨K7, e7⟩ := hsome
  obtain ⟨KK, hK⟩ : ∃ KK, KK = K1 + K2 + K3 + K4 + K5 + K6 + K7 := ⟨_, rfl⟩
  have hG : goodF KK p0 p1 p2 cn = some g := by
    unfold goodF
    rw [show spec_l2Order.f KK (allY p0 p1 p2) = some (ordB (allY p0 p1 p2)) from e1 KK (by omega), hg]
    rfl
  have hP : partsF KK p0 p1 p2 cn = some g := by
    unfold partsF
    rw [show impl_isOrder.f KK (allY p0 p1 p2) = some (ordB (allY p0 p1 p2)) from e2 KK (by omega), hg]
    simp only [Option.bind_some, eqB_zr]
    congr 1
    cases ordB (allY p0 p1 p2) <;> cases zr p0 <;> cases zr p1 <;> cases zr p2 <;> cases decide (0 ≤ cn) <;> cases decide (cn ≤ 1000) <;> rfl
  obtain ⟨q0, q1, q2, cx, hy⟩ := doY_form r (!(cn == 1000)) cn
  refine ⟨q0, q1, q2, cx, doB r (!(cn == 1000)), fun w => ?_, fun w => ?_⟩
  · rw [← hy]
    refine specDoAct_walk KK p0 p1 p2 cn kd aa bb g r _ w hG (fun h => (hgt h).2) (fun h => ?_) (fun h x hx => ?_) hrf
    · rw [hrt h]
      exact mkF_of (e3 KK (by omega)) (e5 KK (by omega))
    · exact good_of KK x cn (e7 KK (by omega) x hx) (hox x h hx) (hgt h).2.1 (hgt h).2.2
  · rw [← hy]
    refine implDoAct_walk KK p0 p1 p2 cn kd aa bb g r _ w hP (fun h => (hgt h).2) (fun h => ?_) (fun _ => rfl) hrf
    rw [hrt h]
    exact mkF_of (e4 KK (by omega)) (e6 KK (by omega))
theorem execLoadRow {P : Program} {o : Oper} {a : Act} {W : World} {ty : TypeId} {x : Operand} {g : Nat} {t : TypeId} {cs : Array Value} {d : TypeDesc} (ho : o.op = .load ty x) (hx : a.eval x = .pointer (some ⟨g, 0, none⟩)) (hg : W.heap[g]? = some (.cells cs t (0, 0)))
    (hu : P.underlying ty = some d) (hd : (match d with | .struct _ | .array _ _ => true | _ => false) = true) (hi : (P.info? ty).map (·.size) = some cs.size) : (execOp a.eval o).run P W = .ok (.value (.agg cs)) W := by
  unfold execOp
  simp only [ho, hx, Instr.loadAt, Instr.sureAddr, Sem.run_bind, Sem.run_pure, Result.andThen_ok, run_loadVar_row W g t ty cs (0, 0) d hg hu hd hi]
set_option maxHeartbeats 16000000 in
set_option maxRecDepth 100000 in
theorem law_DoAct (p0 p1 p2 : Nat → Int) (cn kd aa bb : Int) (w : World) : Calls Try.prog 7 #[.agg (arr (y22 p0 p1 p2 cn)), .agg #[.int .i64 kd, .int .i64 aa, .int .i64 bb]] w fun e w' => e = .returned (.bool true) ∧ Below w.heap.size w w' := by
  obtain ⟨q0, q1, q2, cx, bo, hs, hp⟩ := both_DoAct p0 p1 p2 cn kd aa bb
  have hu := Try.underlying25
  have hi : (Try.prog.info? 25).map (·.size) = some 22 := by kernel_rfl
  have hul := Try.underlying32
  have hil : (Try.prog.info? 32).map (·.size) = some 22 := by kernel_rfl
  have hual := Try.underlying47
  have hial : (Try.prog.info? 47).map (·.size) = some 3 := by kernel_rfl
  have HS := Aside0.mk hs
  have HP := Aside0.mk hp
  have z1 := blk_alloc (blk_new w (.cells (arr (y22 p0 p1 p2 cn)) 32)) (.cells #[.int .i64 kd, .int .i64 aa, .int .i64 bb] 47)
  have z2 := blk_new (w.alloc (.cells (arr (y22 p0 p1 p2 cn)) 32)) (.cells #[.int .i64 kd, .int .i64 aa, .int .i64 bb] 47)
  rw [World.size_alloc] at z2
  obtain ⟨w1, hw1⟩ : ∃ w1, w1 = (w.alloc (.cells (arr (y22 p0 p1 p2 cn)) 32)).alloc (.cells #[.int .i64 kd, .int .i64 aa, .int .i64 bb] 47) := ⟨_, rfl⟩
  have B1 := Aside0.mk (show Below w.heap.size w w1 by rw [hw1]; exact below_alloc (below_alloc (Below.refl _ _) _) _)
  rw [← hw1] at z1 z2
  have Z1 := Aside0.mk z1
  have A1 := Aside0.mk z2
  have hbb : (bo != bo) = false := bne_self_eq_false bo
  clear hs hp z1 z2
  go_enter Try.func7, Try.ntmps7
  go_upto_region 1 with fail
  rw [← hw1]
  clear hw1
  go_cut [5, 6] from 9 to 33 (fun v5 v6 wx => ∃ g : Nat, v5 = .pointer (some ⟨g, 0, none⟩) ∧ v6 = .bool bo ∧ Aside0 (wx.heap[g]? = some (.cells (arr (y22 q0 q1 q2 cx)) 25 (0, 0))) ∧ Aside0 (wx.heap[w.heap.size]? = some (.cells (arr (y22 p0 p1 p2 cn)) 32 (0, 0))) ∧ Aside0 (wx.heap[w.heap.size + 1]? = some (.cells #[.int .i64 kd, .int .i64 aa, .int .i64 bb] 47 (0, 0))) ∧ Aside0 (Below w.heap.size w wx))
  case first =>
    refine wp_region_held_drew (S := (fun W => (W.heap[w.heap.size]? = some (.cells (arr (y22 p0 p1 p2 cn)) 32 (0, 0)) ∧ W.heap[w.heap.size + 1]? = some (.cells #[.int .i64 kd, .int .i64 aa, .int .i64 bb] 47 (0, 0)) ∧ Below w.heap.size w W))) (by kernel_rfl) ⟨Z1.out, A1.out, below_drew B1.out⟩ (fun hHeld => ?_)
    refine wpAnyH_take (i := 0) (oi := ?oimq0) (v := (.agg (arr (y22 p0 p1 p2 cn)))) ?himq0 (by kernel_rfl) (by kernel_rfl) (by kernel_rfl) ?hQmq0 ?hymq0 hHeld ?hmq0
    case himq0 => (simp only [List.getElem?_toArray, List.getElem?_cons_succ, List.getElem?_cons_zero]; rfl)
    case hQmq0 => exact fun _ _ _ h => h
    case hymq0 => exact Or.inl ⟨by rfl, fun w_ hSw => execLoadRow rfl rfl hSw.1 hul rfl hil⟩
    try simp only [Act.put, List.setIfInBounds_toArray, List.set_cons_zero, List.set_cons_succ]
    refine wpAnyH_take (i := 2) (oi := ?oimq2) (v := (.agg #[.int .i64 kd, .int .i64 aa, .int .i64 bb])) ?himq2 (by kernel_rfl) (by kernel_rfl) (by kernel_rfl) ?hQmq2 ?hymq2 hHeld ?hmq2
    case himq2 => (simp only [List.getElem?_toArray, List.getElem?_cons_succ, List.getElem?_cons_zero]; rfl)
    case hQmq2 => exact fun _ _ _ h => h
    case hymq2 => exact Or.inl ⟨by rfl, fun w_ hSw => execLoadRow rfl rfl hSw.2.1 hual rfl hial⟩
    try simp only [Act.put, List.setIfInBounds_toArray, List.set_cons_zero, List.set_cons_succ]
    refine wpAnyH_ready (rs := [1, 8]) (by kernel_rfl) (by simp) ?_
    refine AllReadyH.cons (o := ?ocm1) ?hcm1 (fun K hK => ?hkm1) (AllReadyH.cons (o := ?ocm8) ?hcm8 (fun K hK => ?hkm8) AllReadyH.nil)
    case hcm1 => (simp only [List.getElem?_toArray, List.getElem?_cons_succ, List.getElem?_cons_zero]; rfl)
    case hcm8 => (simp only [List.getElem?_toArray, List.getElem?_cons_succ, List.getElem?_cons_zero]; rfl)
    · go_simp
      go_at_call 15
      refine (toYard_walk p0 p1 p2 cn _).mono ?_
      rintro e w_y ⟨rfl, hb⟩
      try dsimp only
      refine hK.out _ _ ⟨(hb.block _ (lt_of_block (hHeld.1))).trans (hHeld.1), (hb.block _ (lt_of_block (hHeld.2.1))).trans (hHeld.2.1), below_step (hHeld.2.2) hb⟩ (fun hHeld => ?_)
      clear hK K hb
      try simp only [Act.put, List.setIfInBounds_toArray, List.set_cons_zero, List.set_cons_succ]
      refine wpAnyH_ready (rs := [3, 8]) (by kernel_rfl) (by simp) ?_
      refine AllReadyH.cons (o := ?ocmc3) ?hcmc3 (fun K hK => ?hkmc3) (AllReadyH.cons (o := ?ocmc8) ?hcmc8 (fun K hK => ?hkmc8) AllReadyH.nil)
      case hcmc3 => (simp only [List.getElem?_toArray, List.getElem?_cons_succ, List.getElem?_cons_zero]; rfl)
      case hcmc8 => (simp only [List.getElem?_toArray, List.getElem?_cons_succ, List.getElem?_cons_zero]; rfl)
      · go_simp
        go_at_call 25
        refine (laws_toAct.calls kd aa bb kd aa bb _ rfl).mono ?_
        rintro e w_ca ⟨rfl, hb⟩
        try dsimp only
        refine hK.out _ _ ⟨(hb.block _ (lt_of_block (hHeld.1))).trans (hHeld.1), (hb.block _ (lt_of_block (hHeld.2.1))).trans (hHeld.2.1), below_step (hHeld.2.2) hb⟩ (fun hHeld => ?_)
        clear hK K hb
        try simp only [Act.put, List.setIfInBounds_toArray, List.set_cons_zero, List.set_cons_succ]
        refine wpAnyH_ready (rs := [4, 8]) (by kernel_rfl) (by simp) ?_
        refine AllReadyH.cons (o := ?ocmcc4) ?hcmcc4 (fun K hK => ?hkmcc4) (AllReadyH.cons (o := ?ocmcc8) ?hcmcc8 (fun K hK => ?hkmcc8) AllReadyH.nil)
        case hcmcc4 => (simp only [List.getElem?_toArray, List.getElem?_cons_succ, List.getElem?_cons_zero]; rfl)
        case hcmcc8 => (simp only [List.getElem?_toArray, List.getElem?_cons_succ, List.getElem?_cons_zero]; rfl)
        · go_simp
          go_at_call 24
          refine (HS.out _).mono ?_
          rintro e w_ccd ⟨rfl, hb⟩
          try dsimp only
          refine hK.out _ _ ⟨(hb.block _ (lt_of_block (hHeld.1))).trans (hHeld.1), (hb.block _ (lt_of_block (hHeld.2.1))).trans (hHeld.2.1), below_step (hHeld.2.2) hb⟩ (fun hHeld => ?_)
          clear hK K hb
          try simp only [Act.put, List.setIfInBounds_toArray, List.set_cons_zero, List.set_cons_succ]
          refine wpAnyH_take (i := 5) (oi := ?oimcccy5) (v := ?vmcccy5) ?himcccy5 (by kernel_rfl) (by kernel_rfl) (by kernel_rfl) ?hQmcccy5 ?hymcccy5 hHeld ?hmcccy5
          case himcccy5 => (simp only [List.getElem?_toArray, List.getElem?_cons_succ, List.getElem?_cons_zero]; rfl)
          case hQmcccy5 => exact fun _ _ _ h => h
          case hymcccy5 => exact Or.inl ⟨by rfl, by intro w_ hSw; (try dsimp only at hSw); first | (go_simp; done) | (go_simp; with_reducible rfl)⟩
          try simp only [Act.put, List.setIfInBounds_toArray, List.set_cons_zero, List.set_cons_succ]
          refine wpAnyH_take (i := 6) (oi := ?oimcccy6) (v := ?vmcccy6) ?himcccy6 (by kernel_rfl) (by kernel_rfl) (by kernel_rfl) ?hQmcccy6 ?hymcccy6 hHeld ?hmcccy6
          case himcccy6 => (simp only [List.getElem?_toArray, List.getElem?_cons_succ, List.getElem?_cons_zero]; rfl)
          case hQmcccy6 => exact fun _ _ _ h => h
          case hymcccy6 => exact Or.inl ⟨by rfl, by intro w_ hSw; (try dsimp only at hSw); first | (go_simp; done) | (go_simp; with_reducible rfl)⟩
          try simp only [Act.put, List.setIfInBounds_toArray, List.set_cons_zero, List.set_cons_succ]
          refine wpAnyH_take (i := 7) (oi := ?oimcccy7) (v := ?vmcccy7) ?himcccy7 (by kernel_rfl) (by kernel_rfl) (by kernel_rfl) ?hQmcccy7 ?hymcccy7 hHeld ?hmcccy7
          case himcccy7 => (simp only [List.getElem?_toArray, List.getElem?_cons_succ, List.getElem?_cons_zero]; rfl)
          case hQmcccy7 => exact fun _ _ _ h => h
          case hymcccy7 => exact Or.inl ⟨by rfl, by intro w_ hSw; (try dsimp only at hSw); first | (go_simp; done) | (go_simp; with_reducible rfl)⟩
          try simp only [Act.put, List.setIfInBounds_toArray, List.set_cons_zero, List.set_cons_succ]
          refine wpAnyH_ready (rs := [8]) (by kernel_rfl) (by simp) ?_
          refine AllReadyH.cons (o := ?ocmccca8) ?hcmccca8 (fun K hK => ?hkmccca8) AllReadyH.nil
          case hcmccca8 => (simp only [List.getElem?_toArray, List.getElem?_cons_succ, List.getElem?_cons_zero]; rfl)
          go_simp
          have LT0 := Aside0.mk (lt_of_block (hHeld.1))
          have LT1 := Aside0.mk (lt_of_block (hHeld.2.1))
          have LB := Aside0.mk (hHeld.2.2).size
          refine hK.out _ _ ⟨blk_alloc (hHeld.1) _, blk_alloc (hHeld.2.1) _, below_alloc (hHeld.2.2) _⟩ (fun hHeld => ?_)
          have XA := Aside0.mk (blk_new (w_ccd) (.cells #[.int .i64 0, .int .i64 0, .int .i64 0, .int .i64 0, .int .i64 0, .int .i64 0, .int .i64 0, .int .i64 0, .int .i64 0, .int .i64 0, .int .i64 0, .int .i64 0, .int .i64 0, .int .i64 0, .int .i64 0, .int .i64 0, .int .i64 0, .int .i64 0, .int .i64 0, .int .i64 0, .int .i64 0, .int .i64 0] 25))
          clear hK K
          try simp only [Act.put, List.setIfInBounds_toArray, List.set_cons_zero, List.set_cons_succ]
          refine wpAnyH_ready (rs := [9]) (by kernel_rfl) (by simp) ?_
          refine AllReadyH.cons (o := ?ocmcccs9) ?hcmcccs9 (fun K hK => ?hkmcccs9) AllReadyH.nil
          case hcmcccs9 => (simp only [List.getElem?_toArray, List.getElem?_cons_succ, List.getElem?_cons_zero]; rfl)
          rw [if_pos (by rfl)]
          refine wp_store_row 25 (.tmp 5) (.tmp 15) rfl _ (arr (y22 q0 q1 q2 cx)) rfl rfl 25 _ XA.out hi rfl (by kernel_rfl) ?_
          refine hK.out _ _ ⟨(setRow_other _ _ _ _ (by have h1_ := LT0.out; have h2_ : w1.drew.heap.size = w1.heap.size := rfl; omega)).trans (hHeld.1), (setRow_other _ _ _ _ (by have h1_ := LT1.out; have h2_ : w1.drew.heap.size = w1.heap.size := rfl; omega)).trans (hHeld.2.1), below_row (hHeld.2.2) (by have h1_ := LB.out; have h2_ : w1.drew.heap.size = w1.heap.size := rfl; omega) _⟩ (fun hHeld => ?_)
          have XB := Aside0.mk (setRow_heap _ _ _ (arr (y22 q0 q1 q2 cx)) _ _ XA.out)
          clear hK K XA
          try simp only [Act.put, List.setIfInBounds_toArray, List.set_cons_zero, List.set_cons_succ]
          refine wpAnyH_take (i := 10) (oi := ?oimcccz10) (v := ?vmcccz10) ?himcccz10 (by kernel_rfl) (by kernel_rfl) (by kernel_rfl) ?hQmcccz10 ?hymcccz10 hHeld ?hmcccz10
          case himcccz10 => (simp only [List.getElem?_toArray, List.getElem?_cons_succ, List.getElem?_cons_zero]; rfl)
          case hQmcccz10 => exact fun _ _ _ h => h
          case hymcccz10 => exact Or.inl ⟨by rfl, by intro w_ hSw; (try dsimp only at hSw); first | (go_simp; done) | (go_simp; with_reducible rfl)⟩
          try simp only [Act.put, List.setIfInBounds_toArray, List.set_cons_zero, List.set_cons_succ]
          refine wpAnyH_done (by kernel_rfl) ?_ _
          go_wp2_with (fail)
          go_meet
          case rel => exact ⟨_, rfl, rfl, XB, ⟨hHeld.1⟩, ⟨hHeld.2.1⟩, ⟨hHeld.2.2⟩⟩
        · go_simp
          have LT0 := Aside0.mk (lt_of_block (hHeld.1))
          have LT1 := Aside0.mk (lt_of_block (hHeld.2.1))
          have LB := Aside0.mk (hHeld.2.2).size
          refine hK.out _ _ ⟨blk_alloc (hHeld.1) _, blk_alloc (hHeld.2.1) _, below_alloc (hHeld.2.2) _⟩ (fun hHeld => ?_)
          have XA := Aside0.mk (blk_new (w_ca) (.cells #[.int .i64 0, .int .i64 0, .int .i64 0, .int .i64 0, .int .i64 0, .int .i64 0, .int .i64 0, .int .i64 0, .int .i64 0, .int .i64 0, .int .i64 0, .int .i64 0, .int .i64 0, .int .i64 0, .int .i64 0, .int .i64 0, .int .i64 0, .int .i64 0, .int .i64 0, .int .i64 0, .int .i64 0, .int .i64 0] 25))
          clear hK K
          try simp only [Act.put, List.setIfInBounds_toArray, List.set_cons_zero, List.set_cons_succ]
          refine wpAnyH_ready (rs := [4]) (by kernel_rfl) (by simp) ?_
          refine AllReadyH.cons (o := ?ocmcca4) ?hcmcca4 (fun K hK => ?hkmcca4) AllReadyH.nil
          case hcmcca4 => (simp only [List.getElem?_toArray, List.getElem?_cons_succ, List.getElem?_cons_zero]; rfl)
          go_simp
          go_at_call 24
          refine (HS.out _).mono ?_
          rintro e w_ccad ⟨rfl, hb⟩
          have XA := Aside0.mk ((hb.block _ (lt_of_block XA.out)).trans XA.out)
          try dsimp only
          refine hK.out _ _ ⟨(hb.block _ (lt_of_block (hHeld.1))).trans (hHeld.1), (hb.block _ (lt_of_block (hHeld.2.1))).trans (hHeld.2.1), below_step (hHeld.2.2) hb⟩ (fun hHeld => ?_)
          clear hK K hb
          try simp only [Act.put, List.setIfInBounds_toArray, List.set_cons_zero, List.set_cons_succ]
          refine wpAnyH_take (i := 5) (oi := ?oimccacy5) (v := ?vmccacy5) ?himccacy5 (by kernel_rfl) (by kernel_rfl) (by kernel_rfl) ?hQmccacy5 ?hymccacy5 hHeld ?hmccacy5
          case himccacy5 => (simp only [List.getElem?_toArray, List.getElem?_cons_succ, List.getElem?_cons_zero]; rfl)
          case hQmccacy5 => exact fun _ _ _ h => h
          case hymccacy5 => exact Or.inl ⟨by rfl, by intro w_ hSw; (try dsimp only at hSw); first | (go_simp; done) | (go_simp; with_reducible rfl)⟩
          try simp only [Act.put, List.setIfInBounds_toArray, List.set_cons_zero, List.set_cons_succ]
          refine wpAnyH_take (i := 6) (oi := ?oimccacy6) (v := ?vmccacy6) ?himccacy6 (by kernel_rfl) (by kernel_rfl) (by kernel_rfl) ?hQmccacy6 ?hymccacy6 hHeld ?hmccacy6
          case himccacy6 => (simp only [List.getElem?_toArray, List.getElem?_cons_succ, List.getElem?_cons_zero]; rfl)
          case hQmccacy6 => exact fun _ _ _ h => h
          case hymccacy6 => exact Or.inl ⟨by rfl, by intro w_ hSw; (try dsimp only at hSw); first | (go_simp; done) | (go_simp; with_reducible rfl)⟩
          try simp only [Act.put, List.setIfInBounds_toArray, List.set_cons_zero, List.set_cons_succ]
          refine wpAnyH_take (i := 7) (oi := ?oimccacy7) (v := ?vmccacy7) ?himccacy7 (by kernel_rfl) (by kernel_rfl) (by kernel_rfl) ?hQmccacy7 ?hymccacy7 hHeld ?hmccacy7
          case himccacy7 => (simp only [List.getElem?_toArray, List.getElem?_cons_succ, List.getElem?_cons_zero]; rfl)
          case hQmccacy7 => exact fun _ _ _ h => h
          case hymccacy7 => exact Or.inl ⟨by rfl, by intro w_ hSw; (try dsimp only at hSw); first | (go_simp; done) | (go_simp; with_reducible rfl)⟩
          try simp only [Act.put, List.setIfInBounds_toArray, List.set_cons_zero, List.set_cons_succ]
          refine wpAnyH_ready (rs := [9]) (by kernel_rfl) (by simp) ?_
          refine AllReadyH.cons (o := ?ocmccacs9) ?hcmccacs9 (fun K hK => ?hkmccacs9) AllReadyH.nil
          case hcmccacs9 => (simp only [List.getElem?_toArray, List.getElem?_cons_succ, List.getElem?_cons_zero]; rfl)
          rw [if_pos (by rfl)]
          refine wp_store_row 25 (.tmp 5) (.tmp 15) rfl _ (arr (y22 q0 q1 q2 cx)) rfl rfl 25 _ XA.out hi rfl (by kernel_rfl) ?_
          refine hK.out _ _ ⟨(setRow_other _ _ _ _ (by have h1_ := LT0.out; have h2_ : w1.drew.heap.size = w1.heap.size := rfl; omega)).trans (hHeld.1), (setRow_other _ _ _ _ (by have h1_ := LT1.out; have h2_ : w1.drew.heap.size = w1.heap.size := rfl; omega)).trans (hHeld.2.1), below_row (hHeld.2.2) (by have h1_ := LB.out; have h2_ : w1.drew.heap.size = w1.heap.size := rfl; omega) _⟩ (fun hHeld => ?_)
          have XB := Aside0.mk (setRow_heap _ _ _ (arr (y22 q0 q1 q2 cx)) _ _ XA.out)
          clear hK K XA
          try simp only [Act.put, List.setIfInBounds_toArray, List.set_cons_zero, List.set_cons_succ]
          refine wpAnyH_take (i := 10) (oi := ?oimccacz10) (v := ?vmccacz10) ?himccacz10 (by kernel_rfl) (by kernel_rfl) (by kernel_rfl) ?hQmccacz10 ?hymccacz10 hHeld ?hmccacz10
          case himccacz10 => (simp only [List.getElem?_toArray, List.getElem?_cons_succ, List.getElem?_cons_zero]; rfl)
          case hQmccacz10 => exact fun _ _ _ h => h
          case hymccacz10 => exact Or.inl ⟨by rfl, by intro w_ hSw; (try dsimp only at hSw); first | (go_simp; done) | (go_simp; with_reducible rfl)⟩
          try simp only [Act.put, List.setIfInBounds_toArray, List.set_cons_zero, List.set_cons_succ]
          refine wpAnyH_done (by kernel_rfl) ?_ _
          go_wp2_with (fail)
          go_meet
          case rel => exact ⟨_, rfl, rfl, XB, ⟨hHeld.1⟩, ⟨hHeld.2.1⟩, ⟨hHeld.2.2⟩⟩
      · go_simp
        have LT0 := Aside0.mk (lt_of_block (hHeld.1))
        have LT1 := Aside0.mk (lt_of_block (hHeld.2.1))
        have LB := Aside0.mk (hHeld.2.2).size
        refine hK.out _ _ ⟨blk_alloc (hHeld.1) _, blk_alloc (hHeld.2.1) _, below_alloc (hHeld.2.2) _⟩ (fun hHeld => ?_)
        have XA := Aside0.mk (blk_new (w_y) (.cells #[.int .i64 0, .int .i64 0, .int .i64 0, .int .i64 0, .int .i64 0, .int .i64 0, .int .i64 0, .int .i64 0, .int .i64 0, .int .i64 0, .int .i64 0, .int .i64 0, .int .i64 0, .int .i64 0, .int .i64 0, .int .i64 0, .int .i64 0, .int .i64 0, .int .i64 0, .int .i64 0, .int .i64 0, .int .i64 0] 25))
        clear hK K
        try simp only [Act.put, List.setIfInBounds_toArray, List.set_cons_zero, List.set_cons_succ]
        refine wpAnyH_ready (rs := [3]) (by kernel_rfl) (by simp) ?_
        refine AllReadyH.cons (o := ?ocmca3) ?hcmca3 (fun K hK => ?hkmca3) AllReadyH.nil
        case hcmca3 => (simp only [List.getElem?_toArray, List.getElem?_cons_succ, List.getElem?_cons_zero]; rfl)
        go_simp
        go_at_call 25
        refine (laws_toAct.calls kd aa bb kd aa bb _ rfl).mono ?_
        rintro e w_caa ⟨rfl, hb⟩
        have XA := Aside0.mk ((hb.block _ (lt_of_block XA.out)).trans XA.out)
        try dsimp only
        refine hK.out _ _ ⟨(hb.block _ (lt_of_block (hHeld.1))).trans (hHeld.1), (hb.block _ (lt_of_block (hHeld.2.1))).trans (hHeld.2.1), below_step (hHeld.2.2) hb⟩ (fun hHeld => ?_)
        clear hK K hb
        try simp only [Act.put, List.setIfInBounds_toArray, List.set_cons_zero, List.set_cons_succ]
        refine wpAnyH_ready (rs := [4]) (by kernel_rfl) (by simp) ?_
        refine AllReadyH.cons (o := ?ocmcac4) ?hcmcac4 (fun K hK => ?hkmcac4) AllReadyH.nil
        case hcmcac4 => (simp only [List.getElem?_toArray, List.getElem?_cons_succ, List.getElem?_cons_zero]; rfl)
        go_simp
        go_at_call 24
        refine (HS.out _).mono ?_
        rintro e w_cacd ⟨rfl, hb⟩
        have XA := Aside0.mk ((hb.block _ (lt_of_block XA.out)).trans XA.out)
        try dsimp only
        refine hK.out _ _ ⟨(hb.block _ (lt_of_block (hHeld.1))).trans (hHeld.1), (hb.block _ (lt_of_block (hHeld.2.1))).trans (hHeld.2.1), below_step (hHeld.2.2) hb⟩ (fun hHeld => ?_)
        clear hK K hb
        try simp only [Act.put, List.setIfInBounds_toArray, List.set_cons_zero, List.set_cons_succ]
        refine wpAnyH_take (i := 5) (oi := ?oimcaccy5) (v := ?vmcaccy5) ?himcaccy5 (by kernel_rfl) (by kernel_rfl) (by kernel_rfl) ?hQmcaccy5 ?hymcaccy5 hHeld ?hmcaccy5
        case himcaccy5 => (simp only [List.getElem?_toArray, List.getElem?_cons_succ, List.getElem?_cons_zero]; rfl)
        case hQmcaccy5 => exact fun _ _ _ h => h
        case hymcaccy5 => exact Or.inl ⟨by rfl, by intro w_ hSw; (try dsimp only at hSw); first | (go_simp; done) | (go_simp; with_reducible rfl)⟩
        try simp only [Act.put, List.setIfInBounds_toArray, List.set_cons_zero, List.set_cons_succ]
        refine wpAnyH_take (i := 6) (oi := ?oimcaccy6) (v := ?vmcaccy6) ?himcaccy6 (by kernel_rfl) (by kernel_rfl) (by kernel_rfl) ?hQmcaccy6 ?hymcaccy6 hHeld ?hmcaccy6
        case himcaccy6 => (simp only [List.getElem?_toArray, List.getElem?_cons_succ, List.getElem?_cons_zero]; rfl)
        case hQmcaccy6 => exact fun _ _ _ h => h
        case hymcaccy6 => exact Or.inl ⟨by rfl, by intro w_ hSw; (try dsimp only at hSw); first | (go_simp; done) | (go_simp; with_reducible rfl)⟩
        try simp only [Act.put, List.setIfInBounds_toArray, List.set_cons_zero, List.set_cons_succ]
        refine wpAnyH_take (i := 7) (oi := ?oimcaccy7) (v := ?vmcaccy7) ?himcaccy7 (by kernel_rfl) (by kernel_rfl) (by kernel_rfl) ?hQmcaccy7 ?hymcaccy7 hHeld ?hmcaccy7
        case himcaccy7 => (simp only [List.getElem?_toArray, List.getElem?_cons_succ, List.getElem?_cons_zero]; rfl)
        case hQmcaccy7 => exact fun _ _ _ h => h
        case hymcaccy7 => exact Or.inl ⟨by rfl, by intro w_ hSw; (try dsimp only at hSw); first | (go_simp; done) | (go_simp; with_reducible rfl)⟩
        try simp only [Act.put, List.setIfInBounds_toArray, List.set_cons_zero, List.set_cons_succ]
        refine wpAnyH_ready (rs := [9]) (by kernel_rfl) (by simp) ?_
        refine AllReadyH.cons (o := ?ocmcaccs9) ?hcmcaccs9 (fun K hK => ?hkmcaccs9) AllReadyH.nil
        case hcmcaccs9 => (simp only [List.getElem?_toArray, List.getElem?_cons_succ, List.getElem?_cons_zero]; rfl)
        rw [if_pos (by rfl)]
        refine wp_store_row 25 (.tmp 5) (.tmp 15) rfl _ (arr (y22 q0 q1 q2 cx)) rfl rfl 25 _ XA.out hi rfl (by kernel_rfl) ?_
        refine hK.out _ _ ⟨(setRow_other _ _ _ _ (by have h1_ := LT0.out; have h2_ : w1.drew.heap.size = w1.heap.size := rfl; omega)).trans (hHeld.1), (setRow_other _ _ _ _ (by have h1_ := LT1.out; have h2_ : w1.drew.heap.size = w1.heap.size := rfl; omega)).trans (hHeld.2.1), below_row (hHeld.2.2) (by have h1_ := LB.out; have h2_ : w1.drew.heap.size = w1.heap.size := rfl; omega) _⟩ (fun hHeld => ?_)
        have XB := Aside0.mk (setRow_heap _ _ _ (arr (y22 q0 q1 q2 cx)) _ _ XA.out)
        clear hK K XA
        try simp only [Act.put, List.setIfInBounds_toArray, List.set_cons_zero, List.set_cons_succ]
        refine wpAnyH_take (i := 10) (oi := ?oimcaccz10) (v := ?vmcaccz10) ?himcaccz10 (by kernel_rfl) (by kernel_rfl) (by kernel_rfl) ?hQmcaccz10 ?hymcaccz10 hHeld ?hmcaccz10
        case himcaccz10 => (simp only [List.getElem?_toArray, List.getElem?_cons_succ, List.getElem?_cons_zero]; rfl)
        case hQmcaccz10 => exact fun _ _ _ h => h
        case hymcaccz10 => exact Or.inl ⟨by rfl, by intro w_ hSw; (try dsimp only at hSw); first | (go_simp; done) | (go_simp; with_reducible rfl)⟩
        try simp only [Act.put, List.setIfInBounds_toArray, List.set_cons_zero, List.set_cons_succ]
        refine wpAnyH_done (by kernel_rfl) ?_ _
        go_wp2_with (fail)
        go_meet
        case rel => exact ⟨_, rfl, rfl, XB, ⟨hHeld.1⟩, ⟨hHeld.2.1⟩, ⟨hHeld.2.2⟩⟩
    · go_simp
      have LT0 := Aside0.mk (lt_of_block (hHeld.1))
      have LT1 := Aside0.mk (lt_of_block (hHeld.2.1))
      have LB := Aside0.mk (hHeld.2.2).size
      refine hK.out _ _ ⟨blk_alloc (hHeld.1) _, blk_alloc (hHeld.2.1) _, below_alloc (hHeld.2.2) _⟩ (fun hHeld => ?_)
      have XA := Aside0.mk (blk_new (w1.drew) (.cells #[.int .i64 0, .int .i64 0, .int .i64 0, .int .i64 0, .int .i64 0, .int .i64 0, .int .i64 0, .int .i64 0, .int .i64 0, .int .i64 0, .int .i64 0, .int .i64 0, .int .i64 0, .int .i64 0, .int .i64 0, .int .i64 0, .int .i64 0, .int .i64 0, .int .i64 0, .int .i64 0, .int .i64 0, .int .i64 0] 25))
      clear hK K
      try simp only [Act.put, List.setIfInBounds_toArray, List.set_cons_zero, List.set_cons_succ]
      refine wpAnyH_ready (rs := [1]) (by kernel_rfl) (by simp) ?_
      refine AllReadyH.cons (o := ?ocma1) ?hcma1 (fun K hK => ?hkma1) AllReadyH.nil
      case hcma1 => (simp only [List.getElem?_toArray, List.getElem?_cons_succ, List.getElem?_cons_zero]; rfl)
      go_simp
      go_at_call 15
      refine (toYard_walk p0 p1 p2 cn _).mono ?_
      rintro e w_ay ⟨rfl, hb⟩
      have XA := Aside0.mk ((hb.block _ (lt_of_block XA.out)).trans XA.out)
      try dsimp only
      refine hK.out _ _ ⟨(hb.block _ (lt_of_block (hHeld.1))).trans (hHeld.1), (hb.block _ (lt_of_block (hHeld.2.1))).trans (hHeld.2.1), below_step (hHeld.2.2) hb⟩ (fun hHeld => ?_)
      clear hK K hb
      try simp only [Act.put, List.setIfInBounds_toArray, List.set_cons_zero, List.set_cons_succ]
      refine wpAnyH_ready (rs := [3]) (by kernel_rfl) (by simp) ?_
      refine AllReadyH.cons (o := ?ocmac3) ?hcmac3 (fun K hK => ?hkmac3) AllReadyH.nil
      case hcmac3 => (simp only [List.getElem?_toArray, List.getElem?_cons_succ, List.getElem?_cons_zero]; rfl)
      go_simp
      go_at_call 25
      refine (laws_toAct.calls kd aa bb kd aa bb _ rfl).mono ?_
      rintro e w_aca ⟨rfl, hb⟩
      have XA := Aside0.mk ((hb.block _ (lt_of_block XA.out)).trans XA.out)
      try dsimp only
      refine hK.out _ _ ⟨(hb.block _ (lt_of_block (hHeld.1))).trans (hHeld.1), (hb.block _ (lt_of_block (hHeld.2.1))).trans (hHeld.2.1), below_step (hHeld.2.2) hb⟩ (fun hHeld => ?_)
      clear hK K hb
      try simp only [Act.put, List.setIfInBounds_toArray, List.set_cons_zero, List.set_cons_succ]
      refine wpAnyH_ready (rs := [4]) (by kernel_rfl) (by simp) ?_
      refine AllReadyH.cons (o := ?ocmacc4) ?hcmacc4 (fun K hK => ?hkmacc4) AllReadyH.nil
      case hcmacc4 => (simp only [List.getElem?_toArray, List.getElem?_cons_succ, List.getElem?_cons_zero]; rfl)
      go_simp
      go_at_call 24
      refine (HS.out _).mono ?_
      rintro e w_accd ⟨rfl, hb⟩
      have XA := Aside0.mk ((hb.block _ (lt_of_block XA.out)).trans XA.out)
      try dsimp only
      refine hK.out _ _ ⟨(hb.block _ (lt_of_block (hHeld.1))).trans (hHeld.1), (hb.block _ (lt_of_block (hHeld.2.1))).trans (hHeld.2.1), below_step (hHeld.2.2) hb⟩ (fun hHeld => ?_)
      clear hK K hb
      try simp only [Act.put, List.setIfInBounds_toArray, List.set_cons_zero, List.set_cons_succ]
      refine wpAnyH_take (i := 5) (oi := ?oimacccy5) (v := ?vmacccy5) ?himacccy5 (by kernel_rfl) (by kernel_rfl) (by kernel_rfl) ?hQmacccy5 ?hymacccy5 hHeld ?hmacccy5
      case himacccy5 => (simp only [List.getElem?_toArray, List.getElem?_cons_succ, List.getElem?_cons_zero]; rfl)
      case hQmacccy5 => exact fun _ _ _ h => h
      case hymacccy5 => exact Or.inl ⟨by rfl, by intro w_ hSw; (try dsimp only at hSw); first | (go_simp; done) | (go_simp; with_reducible rfl)⟩
      try simp only [Act.put, List.setIfInBounds_toArray, List.set_cons_zero, List.set_cons_succ]
      refine wpAnyH_take (i := 6) (oi := ?oimacccy6) (v := ?vmacccy6) ?himacccy6 (by kernel_rfl) (by kernel_rfl) (by kernel_rfl) ?hQmacccy6 ?hymacccy6 hHeld ?hmacccy6
      case himacccy6 => (simp only [List.getElem?_toArray, List.getElem?_cons_succ, List.getElem?_cons_zero]; rfl)
      case hQmacccy6 => exact fun _ _ _ h => h
      case hymacccy6 => exact Or.inl ⟨by rfl, by intro w_ hSw; (try dsimp only at hSw); first | (go_simp; done) | (go_simp; with_reducible rfl)⟩
      try simp only [Act.put, List.setIfInBounds_toArray, List.set_cons_zero, List.set_cons_succ]
      refine wpAnyH_take (i := 7) (oi := ?oimacccy7) (v := ?vmacccy7) ?himacccy7 (by kernel_rfl) (by kernel_rfl) (by kernel_rfl) ?hQmacccy7 ?hymacccy7 hHeld ?hmacccy7
      case himacccy7 => (simp only [List.getElem?_toArray, List.getElem?_cons_succ, List.getElem?_cons_zero]; rfl)
      case hQmacccy7 => exact fun _ _ _ h => h
      case hymacccy7 => exact Or.inl ⟨by rfl, by intro w_ hSw; (try dsimp only at hSw); first | (go_simp; done) | (go_simp; with_reducible rfl)⟩
      try simp only [Act.put, List.setIfInBounds_toArray, List.set_cons_zero, List.set_cons_succ]
      refine wpAnyH_ready (rs := [9]) (by kernel_rfl) (by simp) ?_
      refine AllReadyH.cons (o := ?ocmacccs9) ?hcmacccs9 (fun K hK => ?hkmacccs9) AllReadyH.nil
      case hcmacccs9 => (simp only [List.getElem?_toArray, List.getElem?_cons_succ, List.getElem?_cons_zero]; rfl)
      rw [if_pos (by rfl)]
      refine wp_store_row 25 (.tmp 5) (.tmp 15) rfl _ (arr (y22 q0 q1 q2 cx)) rfl rfl 25 _ XA.out hi rfl (by kernel_rfl) ?_
      refine hK.out _ _ ⟨(setRow_other _ _ _ _ (by have h1_ := LT0.out; have h2_ : w1.drew.heap.size = w1.heap.size := rfl; omega)).trans (hHeld.1), (setRow_other _ _ _ _ (by have h1_ := LT1.out; have h2_ : w1.drew.heap.size = w1.heap.size := rfl; omega)).trans (hHeld.2.1), below_row (hHeld.2.2) (by have h1_ := LB.out; have h2_ : w1.drew.heap.size = w1.heap.size := rfl; omega) _⟩ (fun hHeld => ?_)
      have XB := Aside0.mk (setRow_heap _ _ _ (arr (y22 q0 q1 q2 cx)) _ _ XA.out)
      clear hK K XA
      try simp only [Act.put, List.setIfInBounds_toArray, List.set_cons_zero, List.set_cons_succ]
      refine wpAnyH_take (i := 10) (oi := ?oimacccz10) (v := ?vmacccz10) ?himacccz10 (by kernel_rfl) (by kernel_rfl) (by kernel_rfl) ?hQmacccz10 ?hymacccz10 hHeld ?hmacccz10
      case himacccz10 => (simp only [List.getElem?_toArray, List.getElem?_cons_succ, List.getElem?_cons_zero]; rfl)
      case hQmacccz10 => exact fun _ _ _ h => h
      case hymacccz10 => exact Or.inl ⟨by rfl, by intro w_ hSw; (try dsimp only at hSw); first | (go_simp; done) | (go_simp; with_reducible rfl)⟩
      try simp only [Act.put, List.setIfInBounds_toArray, List.set_cons_zero, List.set_cons_succ]
      refine wpAnyH_done (by kernel_rfl) ?_ _
      go_wp2_with (fail)
      go_meet
      case rel => exact ⟨_, rfl, rfl, XB, ⟨hHeld.1⟩, ⟨hHeld.2.1⟩, ⟨hHeld.2.2⟩⟩
  case rest =>
    obtain ⟨g1, rfl, rfl, X2, Z2, A2, B2⟩ := hcut
    obtain ⟨wa, rfl⟩ : ∃ wa, wa = wc := ⟨_, rfl⟩
    go_upto_region 2 with fail
    go_cut [7, 8] from 9 to 33 (fun v7 v8 wx => ∃ g : Nat, v7 = .pointer (some ⟨g, 0, none⟩) ∧ v8 = .bool bo ∧ Aside0 (wx.heap[g]? = some (.cells (arr (y22 q0 q1 q2 cx)) 25 (0, 0))) ∧ Aside0 (wx.heap[w.heap.size]? = some (.cells (arr (y22 p0 p1 p2 cn)) 32 (0, 0))) ∧ Aside0 (wx.heap[w.heap.size + 1]? = some (.cells #[.int .i64 kd, .int .i64 aa, .int .i64 bb] 47 (0, 0))) ∧ Aside0 (Below w.heap.size w wx) ∧ Aside0 (wx.heap[g1]? = some (.cells (arr (y22 q0 q1 q2 cx)) 25 (0, 0))))
    case first =>
      refine wp_region_held_drew (S := (fun W => (W.heap[w.heap.size]? = some (.cells (arr (y22 p0 p1 p2 cn)) 32 (0, 0)) ∧ W.heap[w.heap.size + 1]? = some (.cells #[.int .i64 kd, .int .i64 aa, .int .i64 bb] 47 (0, 0)) ∧ W.heap[g1]? = some (.cells (arr (y22 q0 q1 q2 cx)) 25 (0, 0)) ∧ Below w.heap.size w W))) (by kernel_rfl) ⟨Z2.out, A2.out, X2.out, below_drew B2.out⟩ (fun hHeld => ?_)
      refine wpAnyH_take (i := 0) (oi := ?oinq0) (v := (.agg (arr (y22 p0 p1 p2 cn)))) ?hinq0 (by kernel_rfl) (by kernel_rfl) (by kernel_rfl) ?hQnq0 ?hynq0 hHeld ?hnq0
      case hinq0 => (simp only [List.getElem?_toArray, List.getElem?_cons_succ, List.getElem?_cons_zero]; rfl)
      case hQnq0 => exact fun _ _ _ h => h
      case hynq0 => exact Or.inl ⟨by rfl, fun w_ hSw => execLoadRow rfl rfl hSw.1 hul rfl hil⟩
      try simp only [Act.put, List.setIfInBounds_toArray, List.set_cons_zero, List.set_cons_succ]
      refine wpAnyH_take (i := 2) (oi := ?oinq2) (v := (.agg #[.int .i64 kd, .int .i64 aa, .int .i64 bb])) ?hinq2 (by kernel_rfl) (by kernel_rfl) (by kernel_rfl) ?hQnq2 ?hynq2 hHeld ?hnq2
      case hinq2 => (simp only [List.getElem?_toArray, List.getElem?_cons_succ, List.getElem?_cons_zero]; rfl)
      case hQnq2 => exact fun _ _ _ h => h
      case hynq2 => exact Or.inl ⟨by rfl, fun w_ hSw => execLoadRow rfl rfl hSw.2.1 hual rfl hial⟩
      try simp only [Act.put, List.setIfInBounds_toArray, List.set_cons_zero, List.set_cons_succ]
      refine wpAnyH_ready (rs := [1, 8]) (by kernel_rfl) (by simp) ?_
      refine AllReadyH.cons (o := ?ocn1) ?hcn1 (fun K hK => ?hkn1) (AllReadyH.cons (o := ?ocn8) ?hcn8 (fun K hK => ?hkn8) AllReadyH.nil)
      case hcn1 => (simp only [List.getElem?_toArray, List.getElem?_cons_succ, List.getElem?_cons_zero]; rfl)
      case hcn8 => (simp only [List.getElem?_toArray, List.getElem?_cons_succ, List.getElem?_cons_zero]; rfl)
      · go_simp
        go_at_call 15
        refine (toYard_walk p0 p1 p2 cn _).mono ?_
        rintro e w_y ⟨rfl, hb⟩
        try dsimp only
        refine hK.out _ _ ⟨(hb.block _ (lt_of_block (hHeld.1))).trans (hHeld.1), (hb.block _ (lt_of_block (hHeld.2.1))).trans (hHeld.2.1), (hb.block _ (lt_of_block (hHeld.2.2.1))).trans (hHeld.2.2.1), below_step (hHeld.2.2.2) hb⟩ (fun hHeld => ?_)
        clear hK K hb
        try simp only [Act.put, List.setIfInBounds_toArray, List.set_cons_zero, List.set_cons_succ]
        refine wpAnyH_ready (rs := [3, 8]) (by kernel_rfl) (by simp) ?_
        refine AllReadyH.cons (o := ?ocnc3) ?hcnc3 (fun K hK => ?hknc3) (AllReadyH.cons (o := ?ocnc8) ?hcnc8 (fun K hK => ?hknc8) AllReadyH.nil)
        case hcnc3 => (simp only [List.getElem?_toArray, List.getElem?_cons_succ, List.getElem?_cons_zero]; rfl)
        case hcnc8 => (simp only [List.getElem?_toArray, List.getElem?_cons_succ, List.getElem?_cons_zero]; rfl)
        · go_simp
          go_at_call 25
          refine (laws_toAct.calls kd aa bb kd aa bb _ rfl).mono ?_
          rintro e w_ca ⟨rfl, hb⟩
          try dsimp only
          refine hK.out _ _ ⟨(hb.block _ (lt_of_block (hHeld.1))).trans (hHeld.1), (hb.block _ (lt_of_block (hHeld.2.1))).trans (hHeld.2.1), (hb.block _ (lt_of_block (hHeld.2.2.1))).trans (hHeld.2.2.1), below_step (hHeld.2.2.2) hb⟩ (fun hHeld => ?_)
          clear hK K hb
          try simp only [Act.put, List.setIfInBounds_toArray, List.set_cons_zero, List.set_cons_succ]
          refine wpAnyH_ready (rs := [4, 8]) (by kernel_rfl) (by simp) ?_
          refine AllReadyH.cons (o := ?ocncc4) ?hcncc4 (fun K hK => ?hkncc4) (AllReadyH.cons (o := ?ocncc8) ?hcncc8 (fun K hK => ?hkncc8) AllReadyH.nil)
          case hcncc4 => (simp only [List.getElem?_toArray, List.getElem?_cons_succ, List.getElem?_cons_zero]; rfl)
          case hcncc8 => (simp only [List.getElem?_toArray, List.getElem?_cons_succ, List.getElem?_cons_zero]; rfl)
          · go_simp
            go_at_call 26
            refine (HP.out _).mono ?_
            rintro e w_ccd ⟨rfl, hb⟩
            try dsimp only
            refine hK.out _ _ ⟨(hb.block _ (lt_of_block (hHeld.1))).trans (hHeld.1), (hb.block _ (lt_of_block (hHeld.2.1))).trans (hHeld.2.1), (hb.block _ (lt_of_block (hHeld.2.2.1))).trans (hHeld.2.2.1), below_step (hHeld.2.2.2) hb⟩ (fun hHeld => ?_)
            clear hK K hb
            try simp only [Act.put, List.setIfInBounds_toArray, List.set_cons_zero, List.set_cons_succ]
            refine wpAnyH_take (i := 5) (oi := ?oincccy5) (v := ?vncccy5) ?hincccy5 (by kernel_rfl) (by kernel_rfl) (by kernel_rfl) ?hQncccy5 ?hyncccy5 hHeld ?hncccy5
            case hincccy5 => (simp only [List.getElem?_toArray, List.getElem?_cons_succ, List.getElem?_cons_zero]; rfl)
            case hQncccy5 => exact fun _ _ _ h => h
            case hyncccy5 => exact Or.inl ⟨by rfl, by intro w_ hSw; (try dsimp only at hSw); first | (go_simp; done) | (go_simp; with_reducible rfl)⟩
            try simp only [Act.put, List.setIfInBounds_toArray, List.set_cons_zero, List.set_cons_succ]
            refine wpAnyH_take (i := 6) (oi := ?oincccy6) (v := ?vncccy6) ?hincccy6 (by kernel_rfl) (by kernel_rfl) (by kernel_rfl) ?hQncccy6 ?hyncccy6 hHeld ?hncccy6
            case hincccy6 => (simp only [List.getElem?_toArray, List.getElem?_cons_succ, List.getElem?_cons_zero]; rfl)
            case hQncccy6 => exact fun _ _ _ h => h
            case hyncccy6 => exact Or.inl ⟨by rfl, by intro w_ hSw; (try dsimp only at hSw); first | (go_simp; done) | (go_simp; with_reducible rfl)⟩
            try simp only [Act.put, List.setIfInBounds_toArray, List.set_cons_zero, List.set_cons_succ]
            refine wpAnyH_take (i := 7) (oi := ?oincccy7) (v := ?vncccy7) ?hincccy7 (by kernel_rfl) (by kernel_rfl) (by kernel_rfl) ?hQncccy7 ?hyncccy7 hHeld ?hncccy7
            case hincccy7 => (simp only [List.getElem?_toArray, List.getElem?_cons_succ, List.getElem?_cons_zero]; rfl)
            case hQncccy7 => exact fun _ _ _ h => h
            case hyncccy7 => exact Or.inl ⟨by rfl, by intro w_ hSw; (try dsimp only at hSw); first | (go_simp; done) | (go_simp; with_reducible rfl)⟩
            try simp only [Act.put, List.setIfInBounds_toArray, List.set_cons_zero, List.set_cons_succ]
            refine wpAnyH_ready (rs := [8]) (by kernel_rfl) (by simp) ?_
            refine AllReadyH.cons (o := ?ocnccca8) ?hcnccca8 (fun K hK => ?hknccca8) AllReadyH.nil
            case hcnccca8 => (simp only [List.getElem?_toArray, List.getElem?_cons_succ, List.getElem?_cons_zero]; rfl)
            go_simp
            have LT0 := Aside0.mk (lt_of_block (hHeld.1))
            have LT1 := Aside0.mk (lt_of_block (hHeld.2.1))
            have LT2 := Aside0.mk (lt_of_block (hHeld.2.2.1))
            have LB := Aside0.mk (hHeld.2.2.2).size
            refine hK.out _ _ ⟨blk_alloc (hHeld.1) _, blk_alloc (hHeld.2.1) _, blk_alloc (hHeld.2.2.1) _, below_alloc (hHeld.2.2.2) _⟩ (fun hHeld => ?_)
            have XA := Aside0.mk (blk_new (w_ccd) (.cells #[.int .i64 0, .int .i64 0, .int .i64 0, .int .i64 0, .int .i64 0, .int .i64 0, .int .i64 0, .int .i64 0, .int .i64 0, .int .i64 0, .int .i64 0, .int .i64 0, .int .i64 0, .int .i64 0, .int .i64 0, .int .i64 0, .int .i64 0, .int .i64 0, .int .i64 0, .int .i64 0, .int .i64 0, .int .i64 0] 25))
            clear hK K
            try simp only [Act.put, List.setIfInBounds_toArray, List.set_cons_zero, List.set_cons_succ]
            refine wpAnyH_ready (rs := [9]) (by kernel_rfl) (by simp) ?_
            refine AllReadyH.cons (o := ?ocncccs9) ?hcncccs9 (fun K hK => ?hkncccs9) AllReadyH.nil
            case hcncccs9 => (simp only [List.getElem?_toArray, List.getElem?_cons_succ, List.getElem?_cons_zero]; rfl)
            rw [if_pos (by rfl)]
            refine wp_store_row 25 (.tmp 7) (.tmp 23) rfl _ (arr (y22 q0 q1 q2 cx)) rfl rfl 25 _ XA.out hi rfl (by kernel_rfl) ?_
            refine hK.out _ _ ⟨(setRow_other _ _ _ _ (by have h1_ := LT0.out; have h2_ : wa.drew.heap.size = wa.heap.size := rfl; omega)).trans (hHeld.1), (setRow_other _ _ _ _ (by have h1_ := LT1.out; have h2_ : wa.drew.heap.size = wa.heap.size := rfl; omega)).trans (hHeld.2.1), (setRow_other _ _ _ _ (by have h1_ := LT2.out; have h2_ : wa.drew.heap.size = wa.heap.size := rfl; omega)).trans (hHeld.2.2.1), below_row (hHeld.2.2.2) (by have h1_ := LB.out; have h2_ : wa.drew.heap.size = wa.heap.size := rfl; omega) _⟩ (fun hHeld => ?_)
            have XB := Aside0.mk (setRow_heap _ _ _ (arr (y22 q0 q1 q2 cx)) _ _ XA.out)
            clear hK K XA
            try simp only [Act.put, List.setIfInBounds_toArray, List.set_cons_zero, List.set_cons_succ]
            refine wpAnyH_take (i := 10) (oi := ?oincccz10) (v := ?vncccz10) ?hincccz10 (by kernel_rfl) (by kernel_rfl) (by kernel_rfl) ?hQncccz10 ?hyncccz10 hHeld ?hncccz10
            case hincccz10 => (simp only [List.getElem?_toArray, List.getElem?_cons_succ, List.getElem?_cons_zero]; rfl)
            case hQncccz10 => exact fun _ _ _ h => h
            case hyncccz10 => exact Or.inl ⟨by rfl, by intro w_ hSw; (try dsimp only at hSw); first | (go_simp; done) | (go_simp; with_reducible rfl)⟩
            try simp only [Act.put, List.setIfInBounds_toArray, List.set_cons_zero, List.set_cons_succ]
            refine wpAnyH_done (by kernel_rfl) ?_ _
            go_wp2_with (fail)
            go_meet
            case rel => exact ⟨_, rfl, rfl, XB, ⟨hHeld.1⟩, ⟨hHeld.2.1⟩, ⟨hHeld.2.2.2⟩, ⟨hHeld.2.2.1⟩⟩
          · go_simp
            have LT0 := Aside0.mk (lt_of_block (hHeld.1))
            have LT1 := Aside0.mk (lt_of_block (hHeld.2.1))
            have LT2 := Aside0.mk (lt_of_block (hHeld.2.2.1))
            have LB := Aside0.mk (hHeld.2.2.2).size
            refine hK.out _ _ ⟨blk_alloc (hHeld.1) _, blk_alloc (hHeld.2.1) _, blk_alloc (hHeld.2.2.1) _, below_alloc (hHeld.2.2.2) _⟩ (fun hHeld => ?_)
            have XA := Aside0.mk (blk_new (w_ca) (.cells #[.int .i64 0, .int .i64 0, .int .i64 0, .int .i64 0, .int .i64 0, .int .i64 0, .int .i64 0, .int .i64 0, .int .i64 0, .int .i64 0, .int .i64 0, .int .i64 0, .int .i64 0, .int .i64 0, .int .i64 0, .int .i64 0, .int .i64 0, .int .i64 0, .int .i64 0, .int .i64 0, .int .i64 0, .int .i64 0] 25))
            clear hK K
            try simp only [Act.put, List.setIfInBounds_toArray, List.set_cons_zero, List.set_cons_succ]
            refine wpAnyH_ready (rs := [4]) (by kernel_rfl) (by simp) ?_
            refine AllReadyH.cons (o := ?ocncca4) ?hcncca4 (fun K hK => ?hkncca4) AllReadyH.nil
            case hcncca4 => (simp only [List.getElem?_toArray, List.getElem?_cons_succ, List.getElem?_cons_zero]; rfl)
            go_simp
            go_at_call 26
            refine (HP.out _).mono ?_
            rintro e w_ccad ⟨rfl, hb⟩
            have XA := Aside0.mk ((hb.block _ (lt_of_block XA.out)).trans XA.out)
            try dsimp only
            refine hK.out _ _ ⟨(hb.block _ (lt_of_block (hHeld.1))).trans (hHeld.1), (hb.block _ (lt_of_block (hHeld.2.1))).trans (hHeld.2.1), (hb.block _ (lt_of_block (hHeld.2.2.1))).trans (hHeld.2.2.1), below_step (hHeld.2.2.2) hb⟩ (fun hHeld => ?_)
            clear hK K hb
            try simp only [Act.put, List.setIfInBounds_toArray, List.set_cons_zero, List.set_cons_succ]
            refine wpAnyH_take (i := 5) (oi := ?oinccacy5) (v := ?vnccacy5) ?hinccacy5 (by kernel_rfl) (by kernel_rfl) (by kernel_rfl) ?hQnccacy5 ?hynccacy5 hHeld ?hnccacy5
            case hinccacy5 => (simp only [List.getElem?_toArray, List.getElem?_cons_succ, List.getElem?_cons_zero]; rfl)
            case hQnccacy5 => exact fun _ _ _ h => h
            case hynccacy5 => exact Or.inl ⟨by rfl, by intro w_ hSw; (try dsimp only at hSw); first | (go_simp; done) | (go_simp; with_reducible rfl)⟩
            try simp only [Act.put, List.setIfInBounds_toArray, List.set_cons_zero, List.set_cons_succ]
            refine wpAnyH_take (i := 6) (oi := ?oinccacy6) (v := ?vnccacy6) ?hinccacy6 (by kernel_rfl) (by kernel_rfl) (by kernel_rfl) ?hQnccacy6 ?hynccacy6 hHeld ?hnccacy6
            case hinccacy6 => (simp only [List.getElem?_toArray, List.getElem?_cons_succ, List.getElem?_cons_zero]; rfl)
            case hQnccacy6 => exact fun _ _ _ h => h
            case hynccacy6 => exact Or.inl ⟨by rfl, by intro w_ hSw; (try dsimp only at hSw); first | (go_simp; done) | (go_simp; with_reducible rfl)⟩
            try simp only [Act.put, List.setIfInBounds_toArray, List.set_cons_zero, List.set_cons_succ]
            refine wpAnyH_take (i := 7) (oi := ?oinccacy7) (v := ?vnccacy7) ?hinccacy7 (by kernel_rfl) (by kernel_rfl) (by kernel_rfl) ?hQnccacy7 ?hynccacy7 hHeld ?hnccacy7
            case hinccacy7 => (simp only [List.getElem?_toArray, List.getElem?_cons_succ, List.getElem?_cons_zero]; rfl)
            case hQnccacy7 => exact fun _ _ _ h => h
            case hynccacy7 => exact Or.inl ⟨by rfl, by intro w_ hSw; (try dsimp only at hSw); first | (go_simp; done) | (go_simp; with_reducible rfl)⟩
            try simp only [Act.put, List.setIfInBounds_toArray, List.set_cons_zero, List.set_cons_succ]
            refine wpAnyH_ready (rs := [9]) (by kernel_rfl) (by simp) ?_
            refine AllReadyH.cons (o := ?ocnccacs9) ?hcnccacs9 (fun K hK => ?hknccacs9) AllReadyH.nil
            case hcnccacs9 => (simp only [List.getElem?_toArray, List.getElem?_cons_succ, List.getElem?_cons_zero]; rfl)
            rw [if_pos (by rfl)]
            refine wp_store_row 25 (.tmp 7) (.tmp 23) rfl _ (arr (y22 q0 q1 q2 cx)) rfl rfl 25 _ XA.out hi rfl (by kernel_rfl) ?_
            refine hK.out _ _ ⟨(setRow_other _ _ _ _ (by have h1_ := LT0.out; have h2_ : wa.drew.heap.size = wa.heap.size := rfl; omega)).trans (hHeld.1), (setRow_other _ _ _ _ (by have h1_ := LT1.out; have h2_ : wa.drew.heap.size = wa.heap.size := rfl; omega)).trans (hHeld.2.1), (setRow_other _ _ _ _ (by have h1_ := LT2.out; have h2_ : wa.drew.heap.size = wa.heap.size := rfl; omega)).trans (hHeld.2.2.1), below_row (hHeld.2.2.2) (by have h1_ := LB.out; have h2_ : wa.drew.heap.size = wa.heap.size := rfl; omega) _⟩ (fun hHeld => ?_)
            have XB := Aside0.mk (setRow_heap _ _ _ (arr (y22 q0 q1 q2 cx)) _ _ XA.out)
            clear hK K XA
            try simp only [Act.put, List.setIfInBounds_toArray, List.set_cons_zero, List.set_cons_succ]
            refine wpAnyH_take (i := 10) (oi := ?oinccacz10) (v := ?vnccacz10) ?hinccacz10 (by kernel_rfl) (by kernel_rfl) (by kernel_rfl) ?hQnccacz10 ?hynccacz10 hHeld ?hnccacz10
            case hinccacz10 => (simp only [List.getElem?_toArray, List.getElem?_cons_succ, List.getElem?_cons_zero]; rfl)
            case hQnccacz10 => exact fun _ _ _ h => h
            case hynccacz10 => exact Or.inl ⟨by rfl, by intro w_ hSw; (try dsimp only at hSw); first | (go_simp; done) | (go_simp; with_reducible rfl)⟩
            try simp only [Act.put, List.setIfInBounds_toArray, List.set_cons_zero, List.set_cons_succ]
            refine wpAnyH_done (by kernel_rfl) ?_ _
            go_wp2_with (fail)
            go_meet
            case rel => exact ⟨_, rfl, rfl, XB, ⟨hHeld.1⟩, ⟨hHeld.2.1⟩, ⟨hHeld.2.2.2⟩, ⟨hHeld.2.2.1⟩⟩
        · go_simp
          have LT0 := Aside0.mk (lt_of_block (hHeld.1))
          have LT1 := Aside0.mk (lt_of_block (hHeld.2.1))
          have LT2 := Aside0.mk (lt_of_block (hHeld.2.2.1))
          have LB := Aside0.mk (hHeld.2.2.2).size
          refine hK.out _ _ ⟨blk_alloc (hHeld.1) _, blk_alloc (hHeld.2.1) _, blk_alloc (hHeld.2.2.1) _, below_alloc (hHeld.2.2.2) _⟩ (fun hHeld => ?_)
          have XA := Aside0.mk (blk_new (w_y) (.cells #[.int .i64 0, .int .i64 0, .int .i64 0, .int .i64 0, .int .i64 0, .int .i64 0, .int .i64 0, .int .i64 0, .int .i64 0, .int .i64 0, .int .i64 0, .int .i64 0, .int .i64 0, .int .i64 0, .int .i64 0, .int .i64 0, .int .i64 0, .int .i64 0, .int .i64 0, .int .i64 0, .int .i64 0, .int .i64 0] 25))
          clear hK K
          try simp only [Act.put, List.setIfInBounds_toArray, List.set_cons_zero, List.set_cons_succ]
          refine wpAnyH_ready (rs := [3]) (by kernel_rfl) (by simp) ?_
          refine AllReadyH.cons (o := ?ocnca3) ?hcnca3 (fun K hK => ?hknca3) AllReadyH.nil
          case hcnca3 => (simp only [List.getElem?_toArray, List.getElem?_cons_succ, List.getElem?_cons_zero]; rfl)
          go_simp
          go_at_call 25
          refine (laws_toAct.calls kd aa bb kd aa bb _ rfl).mono ?_
          rintro e w_caa ⟨rfl, hb⟩
          have XA := Aside0.mk ((hb.block _ (lt_of_block XA.out)).trans XA.out)
          try dsimp only
          refine hK.out _ _ ⟨(hb.block _ (lt_of_block (hHeld.1))).trans (hHeld.1), (hb.block _ (lt_of_block (hHeld.2.1))).trans (hHeld.2.1), (hb.block _ (lt_of_block (hHeld.2.2.1))).trans (hHeld.2.2.1), below_step (hHeld.2.2.2) hb⟩ (fun hHeld => ?_)
          clear hK K hb
          try simp only [Act.put, List.setIfInBounds_toArray, List.set_cons_zero, List.set_cons_succ]
          refine wpAnyH_ready (rs := [4]) (by kernel_rfl) (by simp) ?_
          refine AllReadyH.cons (o := ?ocncac4) ?hcncac4 (fun K hK => ?hkncac4) AllReadyH.nil
          case hcncac4 => (simp only [List.getElem?_toArray, List.getElem?_cons_succ, List.getElem?_cons_zero]; rfl)
          go_simp
          go_at_call 26
          refine (HP.out _).mono ?_
          rintro e w_cacd ⟨rfl, hb⟩
          have XA := Aside0.mk ((hb.block _ (lt_of_block XA.out)).trans XA.out)
          try dsimp only
          refine hK.out _ _ ⟨(hb.block _ (lt_of_block (hHeld.1))).trans (hHeld.1), (hb.block _ (lt_of_block (hHeld.2.1))).trans (hHeld.2.1), (hb.block _ (lt_of_block (hHeld.2.2.1))).trans (hHeld.2.2.1), below_step (hHeld.2.2.2) hb⟩ (fun hHeld => ?_)
          clear hK K hb
          try simp only [Act.put, List.setIfInBounds_toArray, List.set_cons_zero, List.set_cons_succ]
          refine wpAnyH_take (i := 5) (oi := ?oincaccy5) (v := ?vncaccy5) ?hincaccy5 (by kernel_rfl) (by kernel_rfl) (by kernel_rfl) ?hQncaccy5 ?hyncaccy5 hHeld ?hncaccy5
          case hincaccy5 => (simp only [List.getElem?_toArray, List.getElem?_cons_succ, List.getElem?_cons_zero]; rfl)
          case hQncaccy5 => exact fun _ _ _ h => h
          case hyncaccy5 => exact Or.inl ⟨by rfl, by intro w_ hSw; (try dsimp only at hSw); first | (go_simp; done) | (go_simp; with_reducible rfl)⟩
          try simp only [Act.put, List.setIfInBounds_toArray, List.set_cons_zero, List.set_cons_succ]
          refine wpAnyH_take (i := 6) (oi := ?oincaccy6) (v := ?vncaccy6) ?hincaccy6 (by kernel_rfl) (by kernel_rfl) (by kernel_rfl) ?hQncaccy6 ?hyncaccy6 hHeld ?hncaccy6
          case hincaccy6 => (simp only [List.getElem?_toArray, List.getElem?_cons_succ, List.getElem?_cons_zero]; rfl)
          case hQncaccy6 => exact fun _ _ _ h => h
          case hyncaccy6 => exact Or.inl ⟨by rfl, by intro w_ hSw; (try dsimp only at hSw); first | (go_simp; done) | (go_simp; with_reducible rfl)⟩
          try simp only [Act.put, List.setIfInBounds_toArray, List.set_cons_zero, List.set_cons_succ]
          refine wpAnyH_take (i := 7) (oi := ?oincaccy7) (v := ?vncaccy7) ?hincaccy7 (by kernel_rfl) (by kernel_rfl) (by kernel_rfl) ?hQncaccy7 ?hyncaccy7 hHeld ?hncaccy7
          case hincaccy7 => (simp only [List.getElem?_toArray, List.getElem?_cons_succ, List.getElem?_cons_zero]; rfl)
          case hQncaccy7 => exact fun _ _ _ h => h
          case hyncaccy7 => exact Or.inl ⟨by rfl, by intro w_ hSw; (try dsimp only at hSw); first | (go_simp; done) | (go_simp; with_reducible rfl)⟩
          try simp only [Act.put, List.setIfInBounds_toArray, List.set_cons_zero, List.set_cons_succ]
          refine wpAnyH_ready (rs := [9]) (by kernel_rfl) (by simp) ?_
          refine AllReadyH.cons (o := ?ocncaccs9) ?hcncaccs9 (fun K hK => ?hkncaccs9) AllReadyH.nil
          case hcncaccs9 => (simp only [List.getElem?_toArray, List.getElem?_cons_succ, List.getElem?_cons_zero]; rfl)
          rw [if_pos (by rfl)]
          refine wp_store_row 25 (.tmp 7) (.tmp 23) rfl _ (arr (y22 q0 q1 q2 cx)) rfl rfl 25 _ XA.out hi rfl (by kernel_rfl) ?_
          refine hK.out _ _ ⟨(setRow_other _ _ _ _ (by have h1_ := LT0.out; have h2_ : wa.drew.heap.size = wa.heap.size := rfl; omega)).trans (hHeld.1), (setRow_other _ _ _ _ (by have h1_ := LT1.out; have h2_ : wa.drew.heap.size = wa.heap.size := rfl; omega)).trans (hHeld.2.1), (setRow_other _ _ _ _ (by have h1_ := LT2.out; have h2_ : wa.drew.heap.size = wa.heap.size := rfl; omega)).trans (hHeld.2.2.1), below_row (hHeld.2.2.2) (by have h1_ := LB.out; have h2_ : wa.drew.heap.size = wa.heap.size := rfl; omega) _⟩ (fun hHeld => ?_)
          have XB := Aside0.mk (setRow_heap _ _ _ (arr (y22 q0 q1 q2 cx)) _ _ XA.out)
          clear hK K XA
          try simp only [Act.put, List.setIfInBounds_toArray, List.set_cons_zero, List.set_cons_succ]
          refine wpAnyH_take (i := 10) (oi := ?oincaccz10) (v := ?vncaccz10) ?hincaccz10 (by kernel_rfl) (by kernel_rfl) (by kernel_rfl) ?hQncaccz10 ?hyncaccz10 hHeld ?hncaccz10
          case hincaccz10 => (simp only [List.getElem?_toArray, List.getElem?_cons_succ, List.getElem?_cons_zero]; rfl)
          case hQncaccz10 => exact fun _ _ _ h => h
          case hyncaccz10 => exact Or.inl ⟨by rfl, by intro w_ hSw; (try dsimp only at hSw); first | (go_simp; done) | (go_simp; with_reducible rfl)⟩
          try simp only [Act.put, List.setIfInBounds_toArray, List.set_cons_zero, List.set_cons_succ]
          refine wpAnyH_done (by kernel_rfl) ?_ _
          go_wp2_with (fail)
          go_meet
          case rel => exact ⟨_, rfl, rfl, XB, ⟨hHeld.1⟩, ⟨hHeld.2.1⟩, ⟨hHeld.2.2.2⟩, ⟨hHeld.2.2.1⟩⟩
      · go_simp
        have LT0 := Aside0.mk (lt_of_block (hHeld.1))
        have LT1 := Aside0.mk (lt_of_block (hHeld.2.1))
        have LT2 := Aside0.mk (lt_of_block (hHeld.2.2.1))
        have LB := Aside0.mk (hHeld.2.2.2).size
        refine hK.out _ _ ⟨blk_alloc (hHeld.1) _, blk_alloc (hHeld.2.1) _, blk_alloc (hHeld.2.2.1) _, below_alloc (hHeld.2.2.2) _⟩ (fun hHeld => ?_)
        have XA := Aside0.mk (blk_new (wa.drew) (.cells #[.int .i64 0, .int .i64 0, .int .i64 0, .int .i64 0, .int .i64 0, .int .i64 0, .int .i64 0, .int .i64 0, .int .i64 0, .int .i64 0, .int .i64 0, .int .i64 0, .int .i64 0, .int .i64 0, .int .i64 0, .int .i64 0, .int .i64 0, .int .i64 0, .int .i64 0, .int .i64 0, .int .i64 0, .int .i64 0] 25))
        clear hK K
        try simp only [Act.put, List.setIfInBounds_toArray, List.set_cons_zero, List.set_cons_succ]
        refine wpAnyH_ready (rs := [1]) (by kernel_rfl) (by simp) ?_
        refine AllReadyH.cons (o := ?ocna1) ?hcna1 (fun K hK => ?hkna1) AllReadyH.nil
        case hcna1 => (simp only [List.getElem?_toArray, List.getElem?_cons_succ, List.getElem?_cons_zero]; rfl)
        go_simp
        go_at_call 15
        refine (toYard_walk p0 p1 p2 cn _).mono ?_
        rintro e w_ay ⟨rfl, hb⟩
        have XA := Aside0.mk ((hb.block _ (lt_of_block XA.out)).trans XA.out)
        try dsimp only
        refine hK.out _ _ ⟨(hb.block _ (lt_of_block (hHeld.1))).trans (hHeld.1), (hb.block _ (lt_of_block (hHeld.2.1))).trans (hHeld.2.1), (hb.block _ (lt_of_block (hHeld.2.2.1))).trans (hHeld.2.2.1), below_step (hHeld.2.2.2) hb⟩ (fun hHeld => ?_)
        clear hK K hb
        try simp only [Act.put, List.setIfInBounds_toArray, List.set_cons_zero, List.set_cons_succ]
        refine wpAnyH_ready (rs := [3]) (by kernel_rfl) (by simp) ?_
        refine AllReadyH.cons (o := ?ocnac3) ?hcnac3 (fun K hK => ?hknac3) AllReadyH.nil
        case hcnac3 => (simp only [List.getElem?_toArray, List.getElem?_cons_succ, List.getElem?_cons_zero]; rfl)
        go_simp
        go_at_call 25
        refine (laws_toAct.calls kd aa bb kd aa bb _ rfl).mono ?_
        rintro e w_aca ⟨rfl, hb⟩
        have XA := Aside0.mk ((hb.block _ (lt_of_block XA.out)).trans XA.out)
        try dsimp only
        refine hK.out _ _ ⟨(hb.block _ (lt_of_block (hHeld.1))).trans (hHeld.1), (hb.block _ (lt_of_block (hHeld.2.1))).trans (hHeld.2.1), (hb.block _ (lt_of_block (hHeld.2.2.1))).trans (hHeld.2.2.1), below_step (hHeld.2.2.2) hb⟩ (fun hHeld => ?_)
        clear hK K hb
        try simp only [Act.put, List.setIfInBounds_toArray, List.set_cons_zero, List.set_cons_succ]
        refine wpAnyH_ready (rs := [4]) (by kernel_rfl) (by simp) ?_
        refine AllReadyH.cons (o := ?ocnacc4) ?hcnacc4 (fun K hK => ?hknacc4) AllReadyH.nil
        case hcnacc4 => (simp only [List.getElem?_toArray, List.getElem?_cons_succ, List.getElem?_cons_zero]; rfl)
        go_simp
        go_at_call 26
        refine (HP.out _).mono ?_
        rintro e w_accd ⟨rfl, hb⟩
        have XA := Aside0.mk ((hb.block _ (lt_of_block XA.out)).trans XA.out)
        try dsimp only
        refine hK.out _ _ ⟨(hb.block _ (lt_of_block (hHeld.1))).trans (hHeld.1), (hb.block _ (lt_of_block (hHeld.2.1))).trans (hHeld.2.1), (hb.block _ (lt_of_block (hHeld.2.2.1))).trans (hHeld.2.2.1), below_step (hHeld.2.2.2) hb⟩ (fun hHeld => ?_)
        clear hK K hb
        try simp only [Act.put, List.setIfInBounds_toArray, List.set_cons_zero, List.set_cons_succ]
        refine wpAnyH_take (i := 5) (oi := ?oinacccy5) (v := ?vnacccy5) ?hinacccy5 (by kernel_rfl) (by kernel_rfl) (by kernel_rfl) ?hQnacccy5 ?hynacccy5 hHeld ?hnacccy5
        case hinacccy5 => (simp only [List.getElem?_toArray, List.getElem?_cons_succ, List.getElem?_cons_zero]; rfl)
        case hQnacccy5 => exact fun _ _ _ h => h
        case hynacccy5 => exact Or.inl ⟨by rfl, by intro w_ hSw; (try dsimp only at hSw); first | (go_simp; done) | (go_simp; with_reducible rfl)⟩
        try simp only [Act.put, List.setIfInBounds_toArray, List.set_cons_zero, List.set_cons_succ]
        refine wpAnyH_take (i := 6) (oi := ?oinacccy6) (v := ?vnacccy6) ?hinacccy6 (by kernel_rfl) (by kernel_rfl) (by kernel_rfl) ?hQnacccy6 ?hynacccy6 hHeld ?hnacccy6
        case hinacccy6 => (simp only [List.getElem?_toArray, List.getElem?_cons_succ, List.getElem?_cons_zero]; rfl)
        case hQnacccy6 => exact fun _ _ _ h => h
        case hynacccy6 => exact Or.inl ⟨by rfl, by intro w_ hSw; (try dsimp only at hSw); first | (go_simp; done) | (go_simp; with_reducible rfl)⟩
        try simp only [Act.put, List.setIfInBounds_toArray, List.set_cons_zero, List.set_cons_succ]
        refine wpAnyH_take (i := 7) (oi := ?oinacccy7) (v := ?vnacccy7) ?hinacccy7 (by kernel_rfl) (by kernel_rfl) (by kernel_rfl) ?hQnacccy7 ?hynacccy7 hHeld ?hnacccy7
        case hinacccy7 => (simp only [List.getElem?_toArray, List.getElem?_cons_succ, List.getElem?_cons_zero]; rfl)
        case hQnacccy7 => exact fun _ _ _ h => h
        case hynacccy7 => exact Or.inl ⟨by rfl, by intro w_ hSw; (try dsimp only at hSw); first | (go_simp; done) | (go_simp; with_reducible rfl)⟩
        try simp only [Act.put, List.setIfInBounds_toArray, List.set_cons_zero, List.set_cons_succ]
        refine wpAnyH_ready (rs := [9]) (by kernel_rfl) (by simp) ?_
        refine AllReadyH.cons (o := ?ocnacccs9) ?hcnacccs9 (fun K hK => ?hknacccs9) AllReadyH.nil
        case hcnacccs9 => (simp only [List.getElem?_toArray, List.getElem?_cons_succ, List.getElem?_cons_zero]; rfl)
        rw [if_pos (by rfl)]
        refine wp_store_row 25 (.tmp 7) (.tmp 23) rfl _ (arr (y22 q0 q1 q2 cx)) rfl rfl 25 _ XA.out hi rfl (by kernel_rfl) ?_
        refine hK.out _ _ ⟨(setRow_other _ _ _ _ (by have h1_ := LT0.out; have h2_ : wa.drew.heap.size = wa.heap.size := rfl; omega)).trans (hHeld.1), (setRow_other _ _ _ _ (by have h1_ := LT1.out; have h2_ : wa.drew.heap.size = wa.heap.size := rfl; omega)).trans (hHeld.2.1), (setRow_other _ _ _ _ (by have h1_ := LT2.out; have h2_ : wa.drew.heap.size = wa.heap.size := rfl; omega)).trans (hHeld.2.2.1), below_row (hHeld.2.2.2) (by have h1_ := LB.out; have h2_ : wa.drew.heap.size = wa.heap.size := rfl; omega) _⟩ (fun hHeld => ?_)
        have XB := Aside0.mk (setRow_heap _ _ _ (arr (y22 q0 q1 q2 cx)) _ _ XA.out)
        clear hK K XA
        try simp only [Act.put, List.setIfInBounds_toArray, List.set_cons_zero, List.set_cons_succ]
        refine wpAnyH_take (i := 10) (oi := ?oinacccz10) (v := ?vnacccz10) ?hinacccz10 (by kernel_rfl) (by kernel_rfl) (by kernel_rfl) ?hQnacccz10 ?hynacccz10 hHeld ?hnacccz10
        case hinacccz10 => (simp only [List.getElem?_toArray, List.getElem?_cons_succ, List.getElem?_cons_zero]; rfl)
        case hQnacccz10 => exact fun _ _ _ h => h
        case hynacccz10 => exact Or.inl ⟨by rfl, by intro w_ hSw; (try dsimp only at hSw); first | (go_simp; done) | (go_simp; with_reducible rfl)⟩
        try simp only [Act.put, List.setIfInBounds_toArray, List.set_cons_zero, List.set_cons_succ]
        refine wpAnyH_done (by kernel_rfl) ?_ _
        go_wp2_with (fail)
        go_meet
        case rel => exact ⟨_, rfl, rfl, XB, ⟨hHeld.1⟩, ⟨hHeld.2.1⟩, ⟨hHeld.2.2.2⟩, ⟨hHeld.2.2.1⟩⟩
    case rest =>
      obtain ⟨g2, rfl, rfl, X3, Z3, A3, B3, Y3⟩ := hcut
      go_wp2_with (first
        | ((with_reducible refine gate_dst (N := 25) rfl ?_); refine load_row_event rfl 25 (.tmp 7) rfl g2 rfl 25 (arr (y22 q0 q1 q2 cx)) _ X3.out hu rfl hi ?_)
        | ((with_reducible refine gate_dst (N := 26) rfl ?_); refine load_row_event rfl 25 (.tmp 5) rfl g1 rfl 25 (arr (y22 q0 q1 q2 cx)) _ Y3.out hu rfl hi ?_)
        | (go_at_call 12; (refine (eqYard_selfD q0 q1 q2 cx _).mono ?_); rintro e w8 ⟨rfl, hb⟩; have B8 := Aside0.mk (below_step B3.out hb); clear hb))
      go_ret
      exact ⟨rfl, B8.out⟩

end Go.Proofs.Ythokeoocdkaffaa.Pure
