/- MeanPasses: the program and the reference tell the same fraction of every number. -/
import Derived.Test.YteccmfcmkghbgaaZqXq10
import Derived.Test.YteccmfcmkghbgaaZqXqHpasses
import Derived.Test.YteccmfcmkghbgaaZqXq9
import Derived.Test.YteccmfcmkghbgaaZqXq8
import Derived.Test.YteccmfcmkghbgaaZqXqHdelete
import Derived.Test.YteccmfcmkghbgaaZqXqHeq2
import Derived.Test.YteccmfcmkghbgaaZqXq5
import Derived.Test.YteccmfcmkghbgaaZqXq1
import Derived.Test.YteccmfcmkghbgaaZqXq2
import Derived.Test.YteccmfcmkghbgaaZqPk
set_option linter.unusedVariables false
set_option linter.unusedSimpArgs false
namespace Go.Proofs.Yteccmfcmkghbgaa.Pure
open Go.RowKit Go.Proofs.Yteccmfcmkghbgaa.Xq Go.Proofs.YteccmfcmkghbgaaW.PrintWords Go.Proofs.YteccmfcmkghbgaaW.PrintLast Go.Proofs.Yteccmfcmkghbgaa.Pk

theorem ev_l1In' (a b c : Int) : spec_l1In.f a b c = some (decide (b ≤ a) && decide (a ≤ c)) := by
  unfold spec_l1In.f
  by_cases h : b ≤ a
  · rw [if_pos h, decide_eq_true h, Bool.true_and]
  · rw [if_neg h, decide_eq_false h, Bool.false_and]
/-! ### the sorted order -/
theorem iota_get (n i : Nat) (h : i < n) : rd (iota 1 n) (i : Int) = 1 + (i : Int) := rd_iota 1 n i h
theorem ev_l2Sorted (n : Nat) (hn : n ≤ 1000) : Ev (fun k => spec_l2Sorted.f k (n : Int)) (iota 1 n) := by
  have go : ∀ (m j : Nat), j + m = n → Ev (fun k => spec_l2Sorted.l0 k (n : Int) (iota 1 j) (1 + (j : Int))) (iota 1 n) := by
    intro m
    induction m with
    | zero =>
      intro j hj
      have c : ¬ 1 + (j : Int) ≤ (n : Int) := by omega
      obtain rfl : j = n := by omega
      exact Ev.step (f := fun _ => some (iota 1 j)) (fun k => by simp only [spec_l2Sorted.l0, c, ↓reduceIte]) (Ev.now _)
    | succ m ih =>
      intro j hj
      have c : 1 + (j : Int) ≤ (n : Int) := by omega
      have lim : (iota 1 j).length < 17592186044416 := by rw [iota_length]; omega
      have e := Aside0.mk (show wrap64 (1 + (j : Int) + 1) = 1 + ((j + 1 : Nat) : Int) from by rw [wr (by omega) (by omega)]; omega)
      refine Ev.step (fun k => ?_) (ih (j + 1) (by omega))
      simp only [spec_l2Sorted.l0, c, lim, e.out, ↓reduceIte]
      rw [iota_succ]
  have := go n 0 (by omega)
  exact this
theorem ev_sorted (n : Nat) (hn : n ≤ 1000) : Ev (fun k => impl_sorted.f k (n : Int)) (iota 1 n) := by
  have go : ∀ (m j : Nat), j + m = n → Ev (fun k => impl_sorted.l0 k (iota 1 j) (n : Int) (j : Int)) (iota 1 n) := by
    intro m
    induction m with
    | zero =>
      intro j hj
      have c : ¬ (j : Int) < (n : Int) := by omega
      obtain rfl : j = n := by omega
      exact Ev.step (f := fun _ => some (iota 1 j)) (fun k => by simp only [impl_sorted.l0, c, ↓reduceIte]) (Ev.now _)
    | succ m ih =>
      intro j hj
      have c : (j : Int) < (n : Int) := by omega
      have lim : (iota 1 j).length < 17592186044416 := by rw [iota_length]; omega
      have e := Aside0.mk (show wrap64 ((j : Int) + 1) = ((j + 1 : Nat) : Int) from wj (by omega))
      refine Ev.step (fun k => ?_) (ih (j + 1) (by omega))
      simp only [impl_sorted.l0, c, lim, e.out, ↓reduceIte]
      rw [iota_succ, show (1 : Int) + (j : Int) = ((j + 1 : Nat) : Int) by omega]
  exact go n 0 (by omega)
/-! ### all orders of so many numbers -/
def fct : Nat → Nat
  | 0 => 1
  | n + 1 => (n + 1) * fct n
theorem fct_pos : ∀ n, 0 < fct n
  | 0 => by decide
  | n + 1 => Nat.mul_pos (by omega) (fct_pos n)
theorem ev_factorial (m : Nat) (h : m ≤ 7) : Ev (fun k => impl_factorial.f k (m : Int)) (fct m : Int) := by
  have hm : m = 0 ∨ m = 1 ∨ m = 2 ∨ m = 3 ∨ m = 4 ∨ m = 5 ∨ m = 6 ∨ m = 7 := by omega
  rcases hm with rfl | rfl | rfl | rfl | rfl | rfl | rfl | rfl <;> exact Ev.of (fun k => impl_factorial.mono _ k) (k := 20) (by decide +kernel)
theorem fct_le : ∀ m, m ≤ 7 → fct m ≤ 5040 := by
  intro m h
  have hm : m = 0 ∨ m = 1 ∨ m = 2 ∨ m = 3 ∨ m = 4 ∨ m = 5 ∨ m = 6 ∨ m = 7 := by omega
  rcases hm with rfl | rfl | rfl | rfl | rfl | rfl | rfl | rfl <;> decide
/-- The order with a rank, out of the numbers that are left. -/
def unr : Nat → List Int → Nat → List Int
  | 0, _, _ => []
  | m + 1, left, k => rd left ((k / fct m : Nat) : Int) :: unr m (left.eraseIdx (k / fct m)) (k % fct m)
theorem unr_len : ∀ m left k, (unr m left k).length = m
  | 0, _, _ => rfl
  | m + 1, left, k => by rw [unr, List.length_cons, unr_len m]
theorem unr_perm : ∀ (m : Nat) (left : List Int) (k : Nat), left.length = m → k < fct m → (unr m left k).Perm left
  | 0, left, k, hl, _ => by
    obtain rfl := List.eq_nil_of_length_eq_zero hl
    exact List.Perm.refl _
  | m + 1, left, k, hl, hk => by
    have hq : k / fct m < left.length := by
      rw [hl]
      exact Nat.div_lt_of_lt_mul (by rw [Nat.mul_comm]; exact hk)
    have ih := unr_perm m (left.eraseIdx (k / fct m)) (k % fct m) (by rw [List.length_eraseIdx_of_lt hq]; omega) (Nat.mod_lt _ (fct_pos m))
    rw [unr, rd_get left _ hq]
    refine (List.Perm.cons _ ih).trans ?_
    rw [List.eraseIdx_eq_take_drop_succ]
    have h1 : left = left.take (k / fct m) ++ left[k / fct m] :: left.drop (k / fct m + 1) := by
      rw [← List.drop_eq_getElem_cons hq, List.take_append_drop]
    exact (List.perm_middle.symm.trans (by rw [← h1]))
theorem ev_orderAt0 : ∀ (m : Nat) (left out : List Int) (k : Nat), left.length = m → m ≤ 7 → k < fct m → out.length + m ≤ 100 → Ev (fun K => impl_orderAt.l0 K (m + 1) (k : Int) left out) (out ++ unr m left k)
  | 0, left, out, k, hl, _, _, _ => by
    have c : ¬ 0 < left.length := by omega
    rw [unr, List.append_nil]
    exact Ev.congr (f := fun _ => some out) (fun K => by simp only [impl_orderAt.l0, c, ↓reduceIte]) (Ev.now _)
  | m + 1, left, out, k, hl, hm, hk, ho => by
    have c : 0 < left.length := by omega
    have hq : k / fct m < left.length := by
      rw [hl]
      exact Nat.div_lt_of_lt_mul (by rw [Nat.mul_comm]; exact hk)
    have hkb := fct_le (m + 1) hm
    have hp := fct_pos m
    have hdk : k / fct m ≤ k := Nat.div_le_self _ _
    obtain ⟨q, hqe⟩ : ∃ q : Nat, q = k / fct m := ⟨_, rfl⟩
    rw [← hqe] at hq hdk
    have HQE := Aside0.mk hqe
    clear hqe
    have e1 := Aside0.mk (show wrap64 ((left.length : Int) - 1) = (m : Int) from by rw [wr (by omega) (by omega)]; omega)
    have e2 := Aside0.mk (show wrap64 (Int.tdiv (k : Int) (fct m : Int)) = (q : Int) from by rw [← Int.ofNat_tdiv, ← HQE.out, wr (by omega) (by omega)])
    have e3 := Aside0.mk (show Int.tmod (k : Int) (fct m : Int) = ((k % fct m : Nat) : Int) from (Int.ofNat_tmod _ _).symm)
    have n0 : ¬ (fct m : Int) = 0 := by omega
    have c2 : 0 ≤ (q : Int) ∧ (q : Int) < (left.length : Int) ∧ out.length < 1000 := ⟨by omega, by omega, by omega⟩
    have ih := ev_orderAt0 m (left.eraseIdx q) (out ++ [rd left (q : Int)]) (k % fct m) (by rw [List.length_eraseIdx_of_lt hq]; omega) (by omega) (Nat.mod_lt _ hp) (by rw [List.length_append, List.length_singleton]; omega)
    rw [unr, ← HQE.out, List.append_cons]
    refine Ev.congr (f := fun K => (impl_factorial.f K (m : Int)).bind fun p => if p = 0 then none else if 0 ≤ wrap64 (Int.tdiv (k : Int) p) ∧ wrap64 (Int.tdiv (k : Int) p) < (left.length : Int) ∧ out.length < 1000 then impl_orderAt.l0 K (m + 1) (Int.tmod (k : Int) p) (left.eraseIdx (wrap64 (Int.tdiv (k : Int) p)).toNat) (out ++ [rd left (wrap64 (Int.tdiv (k : Int) p))]) else none) (fun K => ?_) (Ev.bind (ev_factorial m (by omega)) ?_)
    · rw [impl_orderAt.l0, if_pos c, e1.out]
    · simp only [if_neg n0, e2.out, e3.out, if_pos c2, Int.toNat_natCast]
      exact ih
theorem ev_orderAt (n k : Nat) (h1 : 1 ≤ n) (h7 : n ≤ 7) (hk : k < fct n) : Ev (fun K => impl_orderAt.f K (n : Int) (k : Int)) (unr n (iota 1 n) k) := by
  unfold impl_orderAt.f
  refine Ev.bind (ev_sorted n (by omega)) ?_
  have c : 0 < (iota 1 n).length := by rw [iota_length]; omega
  simp only [if_pos c]
  have := ev_orderAt0 n (iota 1 n) [] k (iota_length _ _) h7 hk (by simp; omega)
  rw [List.nil_append] at this
  rw [iota_length]
  exact this
/-- All orders of n numbers. -/
def ords (n : Nat) : List (List Int) := (List.range (fct n)).map (unr n (iota 1 n))
theorem ords_len (n : Nat) : (ords n).length = fct n := by simp [ords]
theorem ords_take (n j : Nat) (h : j < fct n) : (List.range (j + 1)).map (unr n (iota 1 n)) = (List.range j).map (unr n (iota 1 n)) ++ [unr n (iota 1 n) j] := by
  rw [List.range_succ, List.map_append]
  rfl
theorem ev_allOrders (n : Nat) (h1 : 1 ≤ n) (h7 : n ≤ 7) : Ev (fun k => impl_allOrders.f k (n : Int)) (ords n) := by
  have hb := fct_le n h7
  have go : ∀ (m j : Nat), j + m = fct n → Ev (fun k => impl_allOrders.l0 k (n : Int) ((List.range j).map (unr n (iota 1 n))) (fct n : Int) (j : Int)) (ords n) := by
    intro m
    induction m with
    | zero =>
      intro j hj
      have c : ¬ (j : Int) < (fct n : Int) := by omega
      obtain rfl : j = fct n := by omega
      exact Ev.step (f := fun _ => some (ords n)) (fun k => by simp only [impl_allOrders.l0, c, ↓reduceIte]; rfl) (Ev.now _)
    | succ m ih =>
      intro j hj
      have c : (j : Int) < (fct n : Int) := by omega
      have lim : ((List.range j).map (unr n (iota 1 n))).length < 5864062014805 := by rw [List.length_map, List.length_range]; omega
      have e := Aside0.mk (show wrap64 ((j : Int) + 1) = ((j + 1 : Nat) : Int) from wj (by omega))
      have nx := ih (j + 1) (by omega)
      rw [ords_take n j (by omega)] at nx
      refine Ev.step (f := fun k => (impl_orderAt.f k (n : Int) (j : Int)).bind fun t692 => (if ((List.range j).map (unr n (iota 1 n))).length < 5864062014805 then (impl_allOrders.l0 k (n : Int) ((List.range j).map (unr n (iota 1 n)) ++ [t692]) (fct n : Int) ((j + 1 : Nat) : Int)) else (none))) (fun k => by simp only [impl_allOrders.l0, c, e.out, ↓reduceIte]) (Ev.bind (ev_orderAt n j h1 h7 (by omega)) ?_)
      simp only [lim, ↓reduceIte]
      exact nx
  unfold impl_allOrders.f
  exact Ev.bind (ev_factorial n h7) (go (fct n) 0 (by omega))
theorem ords_mem {n : Nat} {o : List Int} (h : o ∈ ords n) : o.Perm (iota 1 n) ∧ o.length = n := by
  obtain ⟨k, hk, rfl⟩ := List.mem_map.1 h
  exact ⟨unr_perm n (iota 1 n) k (iota_length _ _) (List.mem_range.1 hk), unr_len _ _ _⟩
theorem ev_l2Ways (m : Nat) (h : m ≤ 7) : Ev (fun k => spec_l2Ways.f k (m : Int)) (fct m : Int) := by
  have hm : m = 0 ∨ m = 1 ∨ m = 2 ∨ m = 3 ∨ m = 4 ∨ m = 5 ∨ m = 6 ∨ m = 7 := by omega
  rcases hm with rfl | rfl | rfl | rfl | rfl | rfl | rfl | rfl <;> exact Ev.of (fun k => spec_l2Ways.mono _ k) (k := 20) (by decide +kernel)
theorem ev_l2At0 : ∀ (m : Nat) (left out : List Int) (k : Nat), left.length = m → m ≤ 7 → k < fct m → out.length + m ≤ 100 → Ev (fun K => spec_l2At.l0 K (k : Int) out left) (out ++ unr m left k)
  | 0, left, out, k, hl, _, _, _ => by
    have c : ¬ (left.length : Int) > 0 := by omega
    rw [unr, List.append_nil]
    exact Ev.step (f := fun _ => some out) (fun K => by simp only [spec_l2At.l0, c, ↓reduceIte]) (Ev.now _)
  | m + 1, left, out, k, hl, hm, hk, ho => by
    have c : (left.length : Int) > 0 := by omega
    have hq : k / fct m < left.length := by
      rw [hl]
      exact Nat.div_lt_of_lt_mul (by rw [Nat.mul_comm]; exact hk)
    have hkb := fct_le (m + 1) hm
    have hp := fct_pos m
    have hdk : k / fct m ≤ k := Nat.div_le_self _ _
    obtain ⟨q, hqe⟩ : ∃ q : Nat, q = k / fct m := ⟨_, rfl⟩
    rw [← hqe] at hq hdk
    have HQE := Aside0.mk hqe
    clear hqe
    have e1 := Aside0.mk (show wrap64 ((left.length : Int) - 1) = (m : Int) from by rw [wr (by omega) (by omega)]; omega)
    have e2 := Aside0.mk (show wrap64 (Int.tdiv (k : Int) (fct m : Int)) = (q : Int) from by rw [← Int.ofNat_tdiv, ← HQE.out, wr (by omega) (by omega)])
    have e3 := Aside0.mk (show Int.tmod (k : Int) (fct m : Int) = ((k % fct m : Nat) : Int) from (Int.ofNat_tmod _ _).symm)
    have e4 := Aside0.mk (show wrap64 ((q : Int) + 1) = ((q + 1 : Nat) : Int) from wj (by omega))
    have n0 : ¬ (fct m : Int) = 0 := by omega
    have c1 : 0 ≤ (q : Int) := by omega
    have c2 : (q : Int) < (left.length : Int) := by omega
    have c3 : (q : Int) ≤ (left.length : Int) := by omega
    have c4 : 0 ≤ ((q + 1 : Nat) : Int) := by omega
    have c5 : ((q + 1 : Nat) : Int) ≤ (left.length : Int) := by omega
    have c6 : out.length < 17592186044416 := by omega
    have own : spec_l1Own.f (left.take q) = some (left.take q) := by
      unfold spec_l1Own.f
      have lim : ([] : List Int).length + (left.take q).length < 17592186044416 := by simp; omega
      simp only [Option.bind_some, lim, ↓reduceIte, List.nil_append]
    have c7 : (left.take q).length + (left.drop (q + 1)).length < 17592186044416 := by rw [List.length_take, List.length_drop]; omega
    have ih := ev_l2At0 m (left.eraseIdx q) (out ++ [rd left (q : Int)]) (k % fct m) (by rw [List.length_eraseIdx_of_lt hq]; omega) (by omega) (Nat.mod_lt _ hp) (by rw [List.length_append, List.length_singleton]; omega)
    rw [unr, ← HQE.out, List.append_cons]
    refine Ev.step (f := fun K => (spec_l2Ways.f K (m : Int)).bind fun t802 => (if t802 = 0 then (none) else (if 0 ≤ (wrap64 (Int.tdiv (k : Int) t802)) then (if (wrap64 (Int.tdiv (k : Int) t802)) < (left.length : Int) then (if out.length < 17592186044416 then (if (wrap64 (Int.tdiv (k : Int) t802)) ≤ (left.length : Int) then ((spec_l1Own.f (left.take ((wrap64 (Int.tdiv (k : Int) t802)) : Int).toNat)).bind fun t811 => (if 0 ≤ (wrap64 ((wrap64 (Int.tdiv (k : Int) t802)) + 1)) then (if (wrap64 ((wrap64 (Int.tdiv (k : Int) t802)) + 1)) ≤ (left.length : Int) then ((some (left.drop ((wrap64 ((wrap64 (Int.tdiv (k : Int) t802)) + 1)) : Int).toNat : List Int)).bind fun y814 => (if t811.length + y814.length < 17592186044416 then (spec_l2At.l0 K (Int.tmod (k : Int) t802) (out ++ [rd left (wrap64 (Int.tdiv (k : Int) t802))]) (t811 ++ y814)) else (none))) else (none)) else (none))) else (none)) else (none)) else (none)) else (none))))
      (fun K => by simp only [spec_l2At.l0, c, e1.out, ↓reduceIte]) (Ev.bind (ev_l2Ways m (by omega)) ?_)
    simp only [if_neg n0, e2.out, e3.out, e4.out, c1, c2, c3, c4, c5, c6, own, c7, Int.toNat_natCast, Option.bind_some, ↓reduceIte]
    rw [← List.eraseIdx_eq_take_drop_succ]
    exact ih
theorem ev_l2At (n k : Nat) (h7 : n ≤ 7) (hk : k < fct n) : Ev (fun K => spec_l2At.f K (n : Int) (k : Int)) (unr n (iota 1 n) k) := by
  unfold spec_l2At.f
  refine Ev.bind (ev_l2Sorted n (by omega)) ?_
  have := ev_l2At0 n (iota 1 n) [] k (iota_length _ _) h7 hk (by simp; omega)
  rw [List.nil_append] at this
  exact this
theorem ev_l2Orders (n : Nat) (h7 : n ≤ 7) : Ev (fun k => spec_l2Orders.f k (n : Int)) (ords n) := by
  have hb := fct_le n h7
  have go : ∀ (m j : Nat), j + m = fct n → Ev (fun k => spec_l2Orders.l0 k (n : Int) ((List.range j).map (unr n (iota 1 n))) (j : Int)) (ords n) := by
    intro m
    induction m with
    | zero =>
      intro j hj
      have c : ¬ (j : Int) < (fct n : Int) := by omega
      obtain rfl : j = fct n := by omega
      refine Ev.step (f := fun k => (spec_l2Ways.f k (n : Int)).bind fun t824 => (if (fct n : Int) < t824 then ((spec_l2At.f k (n : Int) (fct n : Int)).bind fun t825 => (if ((List.range (fct n)).map (unr n (iota 1 n))).length < 5864062014805 then (spec_l2Orders.l0 k (n : Int) ((List.range (fct n)).map (unr n (iota 1 n)) ++ [t825]) (wrap64 ((fct n : Int) + 1))) else (none))) else (some ((List.range (fct n)).map (unr n (iota 1 n)))))) (fun k => by simp only [spec_l2Orders.l0]) (Ev.bind (ev_l2Ways n h7) ?_)
      simp only [c, ↓reduceIte]
      exact Ev.now _
    | succ m ih =>
      intro j hj
      have c : (j : Int) < (fct n : Int) := by omega
      have lim : ((List.range j).map (unr n (iota 1 n))).length < 5864062014805 := by rw [List.length_map, List.length_range]; omega
      have e := Aside0.mk (show wrap64 ((j : Int) + 1) = ((j + 1 : Nat) : Int) from wj (by omega))
      have nx := ih (j + 1) (by omega)
      rw [ords_take n j (by omega)] at nx
      refine Ev.step (f := fun k => (spec_l2Ways.f k (n : Int)).bind fun t824 => (if (j : Int) < t824 then ((spec_l2At.f k (n : Int) (j : Int)).bind fun t825 => (if ((List.range j).map (unr n (iota 1 n))).length < 5864062014805 then (spec_l2Orders.l0 k (n : Int) ((List.range j).map (unr n (iota 1 n)) ++ [t825]) ((j + 1 : Nat) : Int)) else (none))) else (some ((List.range j).map (unr n (iota 1 n)))))) (fun k => by simp only [spec_l2Orders.l0, e.out]) (Ev.bind (ev_l2Ways n h7) ?_)
      simp only [c, ↓reduceIte]
      refine Ev.bind (ev_l2At n j h7 (by omega)) ?_
      simp only [lim, ↓reduceIte]
      exact nx
  exact go (fct n) 0 (by omega)
theorem chk_of (n : Int) : ∀ (l pre : List Int), (∀ x ∈ l, 1 ≤ x ∧ x ≤ n) → (pre ++ l).Nodup → chk n pre l = true
  | [], _, _, _ => rfl
  | x :: t, pre, h, hn => by
    have hx := h x (by simp)
    have hnx : x ∉ pre := fun hp => by
      have := List.nodup_append.1 hn
      exact this.2.2 x hp x (by simp) rfl
    simp only [chk, Bool.and_eq_true, decide_eq_true_eq, Bool.not_eq_true', List.contains_eq_mem, decide_eq_false_iff_not]
    exact ⟨⟨⟨hx.1, hx.2⟩, hnx⟩, chk_of n t (pre ++ [x]) (fun y hy => h y (by simp [hy])) (by rw [List.append_assoc]; exact hn)⟩
theorem iota_nodup (n : Nat) : (iota 1 n).Nodup := by
  unfold iota
  rw [List.nodup_iff_pairwise_ne, List.pairwise_map]
  refine List.Pairwise.imp ?_ List.nodup_range
  intro a b hab h
  exact hab (by omega)
theorem iota_range (n : Nat) : ∀ x ∈ iota 1 n, 1 ≤ x ∧ x ≤ (n : Int) := by
  intro x hx
  obtain ⟨i, hi, rfl⟩ := List.mem_map.1 hx
  have := List.mem_range.1 hi
  omega
theorem ordB_of_perm {o : List Int} {n : Nat} (h1 : 1 ≤ n) (h7 : n ≤ 7) (p : o.Perm (iota 1 n)) : ordB o = true := by
  have hl : o.length = n := by rw [p.length_eq, iota_length]
  unfold ordB
  rw [hl, decide_eq_true h1, decide_eq_true h7]
  refine chk_of n o [] (fun x hx => iota_range n x (p.mem_iff.1 hx)) ?_
  rw [List.nil_append]
  exact p.symm.nodup (iota_nodup n)
/-! ### fractions -/
theorem ev_frac (a b : Int) (ha : 0 ≤ a) (ha2 : a ≤ 9223372036854775807) (hb : 0 < b) (hb2 : b ≤ 9223372036854775807) : ∃ r : Int × Int, Ev (fun k => impl_fraction.f k a b) r ∧ Ev (fun k => spec_l9Cut.f k a b) r := by
  have go : ∀ (m : Nat) (x y : Int), 0 ≤ x → 0 ≤ y → x ≤ 9223372036854775807 → y ≤ 9223372036854775807 → y ≤ m → 0 < x + y → ∃ r : Int × Int, Ev (fun k => impl_fraction.l0 k a b x y) r ∧ Ev (fun k => spec_l9Cut.l0 k a b x y) r := by
    intro m
    induction m with
    | zero =>
      intro x y hx hy hxm hyM hym hs
      obtain rfl : y = 0 := by omega
      have n0 : ¬ x = 0 := by omega
      have n1 : ¬ (0 : Int) > 0 := by omega
      have hm : spec_l1Most.f x 1 = some x := by
        unfold spec_l1Most.f
        by_cases h : x > 1
        · rw [if_pos h]
        · rw [if_neg h]; congr 1; omega
      refine ⟨(wrap64 (Int.tdiv a x), wrap64 (Int.tdiv b x)), ?_, ?_⟩
      · exact Ev.step (f := fun _ => some (wrap64 (Int.tdiv a x), wrap64 (Int.tdiv b x))) (fun k => by simp only [impl_fraction.l0, n0, ↓reduceIte]) (Ev.now _)
      · exact Ev.step (f := fun _ => some (wrap64 (Int.tdiv a x), wrap64 (Int.tdiv b x))) (fun k => by simp only [spec_l9Cut.l0, n1, n0, hm, Option.bind_some, ↓reduceIte]) (Ev.now _)
    | succ m ih =>
      intro x y hx hy hxm hyM hym hs
      by_cases h0 : y = 0
      · subst h0
        have n0 : ¬ x = 0 := by omega
        have n1 : ¬ (0 : Int) > 0 := by omega
        have hm : spec_l1Most.f x 1 = some x := by
          unfold spec_l1Most.f
          by_cases h : x > 1
          · rw [if_pos h]
          · rw [if_neg h]; congr 1; omega
        refine ⟨(wrap64 (Int.tdiv a x), wrap64 (Int.tdiv b x)), ?_, ?_⟩
        · exact Ev.step (f := fun _ => some (wrap64 (Int.tdiv a x), wrap64 (Int.tdiv b x))) (fun k => by simp only [impl_fraction.l0, n0, ↓reduceIte]) (Ev.now _)
        · exact Ev.step (f := fun _ => some (wrap64 (Int.tdiv a x), wrap64 (Int.tdiv b x))) (fun k => by simp only [spec_l9Cut.l0, n1, n0, hm, Option.bind_some, ↓reduceIte]) (Ev.now _)
      · have hy0 : y > 0 := by omega
        have e : Int.tmod x y = x % y := Int.tmod_eq_emod_of_nonneg hx
        have h1 := Int.emod_nonneg x h0
        have h2 := Int.emod_lt_of_pos x hy0
        obtain ⟨r, r1, r2⟩ := ih y (Int.tmod x y) hy (by rw [e]; exact h1) hyM (by rw [e]; omega) (by rw [e]; omega) (by rw [e]; omega)
        exact ⟨r, Ev.step (fun k => by simp only [impl_fraction.l0, h0, ↓reduceIte]) r1, Ev.step (fun k => by simp only [spec_l9Cut.l0, hy0, h0, ↓reduceIte]) r2⟩
  obtain ⟨r, r1, r2⟩ := go b.toNat a b ha (by omega) ha2 hb2 (by omega) (by omega)
  exact ⟨r, r1, r2⟩
theorem ev_eqA2 (a b : Int) : laws_eqIntA2.f a b a b = some true := by
  unfold laws_eqIntA2.f
  simp
/-! ### means over all orders -/
theorem ev_meanL (F : Nat → List Int → Option Int) (G : List Int → Int) (M : Int) (hM : 0 ≤ M) (hM2 : M ≤ 1000000) : ∀ (l : List (List Int)) (s : Int), (∀ o ∈ l, Ev (fun k => F k o) (G o) ∧ 0 ≤ G o ∧ G o ≤ M) → 0 ≤ s → s + M * l.length ≤ 1000000000000 → Ev (fun k => meanL (F k) l s) (s + (l.map G).sum) ∧ 0 ≤ (l.map G).sum ∧ (l.map G).sum ≤ M * l.length
  | [], s, _, _, _ => by
    simp only [meanL, List.map_nil, List.sum_nil, Int.add_zero]
    exact ⟨Ev.now _, Int.le_refl _, by simp⟩
  | o :: t, s, h, hs, hb => by
    obtain ⟨a, b, c⟩ := h o (by simp)
    have hlen : M * ((o :: t).length : Int) = M * (t.length : Int) + M := by
      rw [List.length_cons, Int.natCast_add, Int.mul_add]
      simp
    rw [hlen] at hb ⊢
    have hMt : 0 ≤ M * (t.length : Int) := Int.mul_nonneg hM (by omega)
    have e := Aside0.mk (show wrap64 (s + G o) = s + G o from wr (by omega) (by omega))
    obtain ⟨i1, i2, i3⟩ := ev_meanL F G M hM hM2 t (s + G o) (fun o ho => h o (by simp [ho])) (by omega) (by omega)
    simp only [List.map_cons, List.sum_cons]
    refine ⟨?_, by omega, by omega⟩
    rw [← Int.add_assoc]
    have := Ev.bind (f := fun k x => meanL (F k) t (wrap64 (s + x))) a (by rw [e.out]; exact i1)
    exact this
/-- The mean of a number G of all orders of n numbers. -/
theorem ev_drawn (F : Nat → List Int → Option Int) (G : List Int → Int) (M : Int) (hM : 0 ≤ M) (hM2 : M ≤ 1000000) (n : Nat) (h1 : 1 ≤ n) (h6 : n ≤ 6) (hF : ∀ o ∈ ords n, Ev (fun k => F k o) (G o) ∧ 0 ≤ G o ∧ G o ≤ M) : ∃ r : Int × Int, Ev (fun k => drawnF k (F k) (n : Int) true) (r.1, r.2, true) ∧ Ev (fun k => spec_l9Cut.f k (((ords n).map G).sum) (fct n : Int)) r ∧ 0 ≤ ((ords n).map G).sum ∧ ((ords n).map G).sum ≤ M * 5040 := by
  have hb := fct_le n (by omega)
  have hp := fct_pos n
  have hl := ords_len n
  have hML : M * ((ords n).length : Int) ≤ M * 5040 := Int.mul_le_mul_of_nonneg_left (by omega) hM
  have hM3 : M * 5040 ≤ 1000000 * 5040 := Int.mul_le_mul_of_nonneg_right hM2 (by omega)
  obtain ⟨a, b, c⟩ := ev_meanL F G M hM hM2 (ords n) 0 hF (Int.le_refl _) (by omega)
  rw [Int.zero_add] at a
  obtain ⟨r, r1, r2⟩ := ev_frac ((ords n).map G).sum (fct n : Int) b (by omega) (by omega) (by omega)
  refine ⟨r, ?_, r2, b, by omega⟩
  have hd : impl_isDrawn.f (n : Int) = some true := by
    unfold impl_isDrawn.f
    rw [if_pos (by omega), decide_eq_true (by omega)]
  unfold drawnF
  simp only [hd, Option.bind_some, Bool.and_true, ↓reduceIte]
  have hm : Ev (fun k => meanF k (F k) (n : Int)) r := by
    unfold meanF
    refine Ev.bind (ev_allOrders n h1 (by omega)) ?_
    have lim : (ords n).length < 1000000 := by omega
    simp only [lim, ↓reduceIte]
    exact Ev.bind a (Ev.bind (ev_factorial n (by omega)) r1)
  exact Ev.bind hm (Ev.now _)
theorem drawn_no (F : List Int → Option Int) (n : Int) (right : Bool) (k : Nat) (h : ((decide (1 ≤ n) && decide (n ≤ 6)) && right) = false) : drawnF k F n right = some (0, 0, false) := by
  unfold drawnF impl_isDrawn.f
  by_cases h1 : n ≥ 1
  · rw [if_pos h1, Option.bind_some]
    rw [decide_eq_true h1, Bool.true_and] at h
    rw [h]
    rfl
  · rw [if_neg h1, Option.bind_some, Bool.false_and]
    rfl
theorem ev_l9Size (n : Int) : spec_l9Size.f n = some (decide (1 ≤ n) && decide (n ≤ 6)) := by
  unfold spec_l9Size.f
  rw [ev_l1In', Option.bind_some]
def passQ (o : List Int) : Bool := match passF 60 o, spec_CountPasses.f 60 o with | some a, some p => a == p.1 && decide (0 ≤ a) && decide (a ≤ 100) | _, _ => false
set_option maxRecDepth 100000 in
theorem pass6_0 : (((ords 6).drop (60 * 0)).take 60).all passQ = true := by decide +kernel
set_option maxRecDepth 100000 in
theorem pass6_1 : (((ords 6).drop (60 * 1)).take 60).all passQ = true := by decide +kernel
set_option maxRecDepth 100000 in
theorem pass6_2 : (((ords 6).drop (60 * 2)).take 60).all passQ = true := by decide +kernel
set_option maxRecDepth 100000 in
theorem pass6_3 : (((ords 6).drop (60 * 3)).take 60).all passQ = true := by decide +kernel
set_option maxRecDepth 100000 in
theorem pass6_4 : (((ords 6).drop (60 * 4)).take 60).all passQ = true := by decide +kernel
set_option maxRecDepth 100000 in
theorem pass6_5 : (((ords 6).drop (60 * 5)).take 60).all passQ = true := by decide +kernel
set_option maxRecDepth 100000 in
theorem pass6_6 : (((ords 6).drop (60 * 6)).take 60).all passQ = true := by decide +kernel
set_option maxRecDepth 100000 in
theorem pass6_7 : (((ords 6).drop (60 * 7)).take 60).all passQ = true := by decide +kernel
set_option maxRecDepth 100000 in
theorem pass6_8 : (((ords 6).drop (60 * 8)).take 60).all passQ = true := by decide +kernel
set_option maxRecDepth 100000 in
theorem pass6_9 : (((ords 6).drop (60 * 9)).take 60).all passQ = true := by decide +kernel
set_option maxRecDepth 100000 in
theorem pass6_10 : (((ords 6).drop (60 * 10)).take 60).all passQ = true := by decide +kernel
set_option maxRecDepth 100000 in
theorem pass6_11 : (((ords 6).drop (60 * 11)).take 60).all passQ = true := by decide +kernel
theorem all_parts (L : List (List Int)) (q : List Int → Bool) : ∀ m, (∀ j, j < m → ((L.drop (60 * j)).take 60).all q = true) → (L.take (60 * m)).all q = true
  | 0, _ => by simp
  | m + 1, h => by
    rw [show 60 * (m + 1) = 60 * m + 60 by omega, List.take_add, List.all_append, all_parts L q m (fun j hj => h j (by omega)), h m (by omega)]
    rfl
theorem pass6 : (ords 6).all passQ = true := by
  have h := all_parts (ords 6) passQ 12 (fun j hj => by
    have : j = 0 ∨ j = 1 ∨ j = 2 ∨ j = 3 ∨ j = 4 ∨ j = 5 ∨ j = 6 ∨ j = 7 ∨ j = 8 ∨ j = 9 ∨ j = 10 ∨ j = 11 := by omega
    rcases this with rfl | rfl | rfl | rfl | rfl | rfl | rfl | rfl | rfl | rfl | rfl | rfl
    · exact pass6_0
    · exact pass6_1
    · exact pass6_2
    · exact pass6_3
    · exact pass6_4
    · exact pass6_5
    · exact pass6_6
    · exact pass6_7
    · exact pass6_8
    · exact pass6_9
    · exact pass6_10
    · exact pass6_11)
  rwa [List.take_of_length_le (by rw [ords_len]; decide)] at h
set_option maxRecDepth 100000 in
theorem pass_all (n : Nat) (h1 : 1 ≤ n) (h6 : n ≤ 6) : (ords n).all passQ = true := by
  have hn : n = 1 ∨ n = 2 ∨ n = 3 ∨ n = 4 ∨ n = 5 ∨ n = 6 := by omega
  rcases hn with rfl | rfl | rfl | rfl | rfl | rfl
  · decide +kernel
  · decide +kernel
  · decide +kernel
  · decide +kernel
  · decide +kernel
  · exact pass6
def passG (o : List Int) : Int := match passF 60 o with | some a => a | _ => 0
theorem passF_mono (k : Nat) (l : List Int) : LeO (passF k l) (passF (k + 1) l) := LeO.bind (impl_CountPasses.mono _ _) fun _ => LeO.refl _
theorem pass_ev {n : Nat} (h1 : 1 ≤ n) (h6 : n ≤ 6) {o : List Int} (ho : o ∈ ords n) : ∃ p, Ev (fun k => passF k o) (passG o) ∧ Ev (fun k => spec_CountPasses.f k o) p ∧ passG o = p.1 ∧ 0 ≤ passG o ∧ passG o ≤ 100 := by
  have h := List.all_eq_true.1 (pass_all n h1 h6) o ho
  unfold passQ at h
  cases ha : passF 60 o with
  | none => rw [ha] at h; cases h
  | some b =>
    cases hp : spec_CountPasses.f 60 o with
    | none => rw [ha, hp] at h; cases h
    | some p =>
      rw [ha, hp] at h
      simp only [Bool.and_eq_true, beq_iff_eq, decide_eq_true_eq] at h
      have hg : passG o = b := by unfold passG; rw [ha]
      rw [hg]
      exact ⟨p, Ev.of (fun k => passF_mono k o) (k := 60) ha, Ev.of (fun k => spec_CountPasses.mono _ k) (k := 60) hp, h.1.1, h.1.2, h.2⟩
theorem passG_bound {n : Nat} (h1 : 1 ≤ n) (h6 : n ≤ 6) {o : List Int} (ho : o ∈ ords n) : 0 ≤ passG o := by
  obtain ⟨_, _, _, _, h, _⟩ := pass_ev h1 h6 ho
  exact h
theorem both_MeanPasses (n : Int) : ∃ r : Int × Int × Bool, Ev (fun k => spec_MeanPasses.f k n) r ∧ Ev (fun k => impl_MeanPasses.f k n) r := by
  unfold spec_MeanPasses.f impl_MeanPasses.f
  simp only [ev_l9Size, Option.bind_some]
  cases hs : (decide (1 ≤ n) && decide (n ≤ 6)) with
  | false =>
    refine ⟨(0, 0, false), ?_, ?_⟩
    · simp only [Bool.false_eq_true, ↓reduceIte]
      exact Ev.now _
    · exact Ev.congr (fun k => drawn_no _ n true k (by rw [hs]; rfl)) (Ev.now _)
  | true =>
    simp only [Bool.and_eq_true, decide_eq_true_eq] at hs
    obtain ⟨n, rfl⟩ : ∃ m : Nat, n = (m : Int) := ⟨n.toNat, by omega⟩
    have h1 : 1 ≤ n := by omega
    have h6 : n ≤ 6 := by omega
    obtain ⟨r, r1, r2, r3, r4⟩ := ev_drawn passF passG 100 (by omega) (by omega) n h1 h6 (fun o ho => by
      obtain ⟨p, e1, _, _, e4, e5⟩ := pass_ev h1 h6 ho
      exact ⟨e1, e4, e5⟩)
    refine ⟨(r.1, r.2, true), ?_, r1⟩
    have hb := fct_le n (by omega)
    have go : ∀ (d i : Nat) (s : Int), i + d = (ords n).length → 0 ≤ s → s + (((ords n).drop i).map passG).sum = ((ords n).map passG).sum → (∀ j, 0 ≤ (((ords n).drop j).map passG).sum) → Ev (fun k => spec_MeanPasses.l0 k s (ords n) (i : Int)) (r.1, r.2, true) := by
      intro d
      induction d with
      | zero =>
        intro i s hi hs0 hs hpos
        have c : ¬ (i : Int) < ((ords n).length : Int) := by omega
        rw [List.drop_of_length_le (show (ords n).length ≤ i by omega)] at hs
        simp only [List.map_nil, List.sum_nil, Int.add_zero] at hs
        refine Ev.step (f := fun k => (spec_l9Cut.f k s ((ords n).length : Int)).bind fun bt279 => (some (bt279.1, bt279.2, true))) (fun k => by simp only [spec_MeanPasses.l0, c, ↓reduceIte]) ?_
        rw [hs, ords_len]
        exact Ev.bind r2 (Ev.now _)
      | succ d ih =>
        intro i s hi hs0 hs hpos
        have c : (i : Int) < ((ords n).length : Int) := by omega
        have c1 : 0 ≤ (i : Int) := by omega
        have ej := Aside0.mk (show wrap64 ((i : Int) + 1) = ((i + 1 : Nat) : Int) from wj (by rw [ords_len] at hi; omega))
        have hil : i < (ords n).length := by omega
        have hmem : (ords n)[i] ∈ ords n := List.getElem_mem hil
        obtain ⟨p, _, e2, e3, e4, e5⟩ := pass_ev h1 h6 hmem
        rw [List.drop_eq_getElem_cons hil, List.map_cons, List.sum_cons] at hs
        have hp1 := hpos (i + 1)
        have es := Aside0.mk (show wrap64 (s + p.1) = s + p.1 from wr (by omega) (by omega))
        have er : (ords n).getD i [] = (ords n)[i] := by simp [hil]
        refine Ev.step (f := fun k => (spec_CountPasses.f k (ords n)[i]).bind fun bt277 => (spec_MeanPasses.l0 k (wrap64 (s + bt277.1)) (ords n) ((i + 1 : Nat) : Int))) (fun k => by simp only [spec_MeanPasses.l0, c, c1, ej.out, ↓reduceIte, rd_L3, Int.toNat_natCast, er]) ?_
        refine Ev.bind e2 ?_
        simp only [es.out]
        exact ih (i + 1) _ (by omega) (by omega) (by omega) hpos
    have hpos : ∀ j, 0 ≤ (((ords n).drop j).map passG).sum := by
      intro j
      have : ∀ l : List (List Int), (∀ o ∈ l, 0 ≤ passG o) → 0 ≤ (l.map passG).sum := by
        intro l
        induction l with
        | nil => intro _; simp
        | cons x t ih =>
          intro h
          rw [List.map_cons, List.sum_cons]
          have := h x (by simp)
          have := ih fun o ho => h o (by simp [ho])
          omega
      exact this _ fun o ho => passG_bound h1 h6 (List.mem_of_mem_drop ho)
    simp only [↓reduceIte]
    refine Ev.bind (ev_l2Orders n (by omega)) ?_
    exact go (ords n).length 0 0 (by omega) (Int.le_refl _) (by simp) hpos
theorem FnExactMeanPasses : laws_FnExactMeanPasses.Pure := by
  intro n _
  obtain ⟨r, ⟨K1, h1⟩, ⟨K2, h2⟩⟩ := both_MeanPasses n
  dsimp only at h1 h2
  refine ⟨K1 + K2, ?_⟩
  unfold laws_FnExactMeanPasses.f
  rw [h1 _ (by omega), Option.bind_some, h2 _ (by omega), Option.bind_some, ev_eqA2, Option.bind_some, if_pos rfl, bne_self_eq_false]
  rfl

end Go.Proofs.Yteccmfcmkghbgaa.Pure
