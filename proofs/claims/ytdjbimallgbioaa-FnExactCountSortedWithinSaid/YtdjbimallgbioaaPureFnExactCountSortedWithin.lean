/- CountSortedWithin: the program and the reference count the same for all numbers and limits. -/
import Derived.Test.YtdjbimallgbioaaXc6
import Derived.Test.YtdjbimallgbioaaXc4
import Derived.Test.YtdjbimallgbioaaXc3
import Derived.Test.YtdjbimallgbioaaXcHdelete
import Derived.Test.YtdjbimallgbioaaXc5
import Derived.Test.YtdjbimallgbioaaXc2
import Derived.Test.YtdjbimallgbioaaXc1
import Derived.Test.YtdjbimallgbioaaPk
set_option linter.unusedVariables false
set_option linter.unusedSimpArgs false
namespace Go.Proofs.Ytdjbimallgbioaa.Pure
open Go.RowKit Go.Proofs.Ytdjbimallgbioaa.Xc Go.Proofs.YtdjbimallgbioaaW.PrintWords Go.Proofs.YtdjbimallgbioaaW.PrintLast Go.Proofs.Ytdjbimallgbioaa.Pk

/-! ### texts out of numbers -/
theorem son_append (x y : List Int) : strOfNums (x ++ y) = strOfNums x ++ strOfNums y := by
  apply ByteArray.ext
  simp [strOfNums]
theorem son_79 : (⟨#[79]⟩ : ByteArray) = strOfNums [79] := rfl
theorem son_73 : (⟨#[73]⟩ : ByteArray) = strOfNums [73] := rfl
theorem son_size (x : List Int) : (strOfNums x).size = x.length := by simp [strOfNums, ByteArray.size]
theorem bs_son (x : List Int) (h : ∀ c ∈ x, c = 73 ∨ c = 79) : bs (strOfNums x) = x := by
  unfold bs strOfNums
  simp only [List.map_map]
  refine (List.map_congr_left ?_).trans (List.map_id x)
  intro c hc
  rcases h c hc with rfl | rfl <;> rfl
/-- How high the stack stands behind signs. -/
def hgt : List Int → Int → Option Int
  | [], h => some h
  | c :: t, h => if c = 73 then hgt t (h + 1) else if c = 79 then (if h - 1 < 0 then none else hgt t (h - 1)) else none
theorem hgt_append : ∀ (a b : List Int) (h : Int), hgt (a ++ b) h = (hgt a h).bind (hgt b)
  | [], b, h => rfl
  | c :: t, b, h => by
    simp only [List.cons_append, hgt]
    split
    · exact hgt_append t b _
    · split
      · split
        · rfl
        · exact hgt_append t b _
      · rfl
theorem hgt_byte : ∀ (l : List Int) (h r : Int), hgt l h = some r → ∀ c ∈ l, c = 73 ∨ c = 79
  | [], _, _, _ => by intro c hc; cases hc
  | x :: t, h, r, e => by
    intro c hc
    simp only [hgt] at e
    split at e
    · rcases List.mem_cons.1 hc with rfl | hc
      · exact .inl (by assumption)
      · exact hgt_byte t _ _ e c hc
    · split at e
      · split at e
        · cases e
        · rcases List.mem_cons.1 hc with rfl | hc
          · exact .inr (by assumption)
          · exact hgt_byte t _ _ e c hc
      · cases e
theorem ev_l1In' (a b c : Int) : spec_l1In.f a b c = some (decide (b ≤ a) && decide (a ≤ c)) := by
  unfold spec_l1In.f
  by_cases h : b ≤ a
  · rw [if_pos h, decide_eq_true h, Bool.true_and]
  · rw [if_neg h, decide_eq_false h, Bool.false_and]
theorem ev_isSize (a : Int) : impl_isSize.f a = some (decide (1 ≤ a) && decide (a ≤ 7)) := by
  unfold impl_isSize.f
  by_cases h : 1 ≤ a
  · rw [if_pos h, decide_eq_true h, Bool.true_and]
  · rw [if_neg h, decide_eq_false h, Bool.false_and]
theorem ev_limits (d : Int) : spec_l10Limit.f d = some (decide (1 ≤ d) && decide (d ≤ 7)) ∧ impl_isLimit.f d = some (decide (1 ≤ d) && decide (d ≤ 7)) := by
  unfold spec_l10Limit.f impl_isLimit.f
  rw [ev_l1In', ev_isSize]
  exact ⟨rfl, rfl⟩
/-! ### words that go on: t signs are left, i of them pushes and o of them pops -/
def wl : Nat → Nat → Nat → List (List Int)
  | 0, _, _ => [[]]
  | t + 1, i, o => (if 0 < i then (wl t (i - 1) o).map (fun c => 73 :: c) else []) ++ (if i < o then (wl t i (o - 1)).map (fun c => 79 :: c) else [])
/-- those that stay within a limit -/
def wd (d : Nat) : Nat → Nat → Nat → List (List Int)
  | 0, _, _ => [[]]
  | t + 1, i, o => (if 0 < i ∧ o - i < d then (wd d t (i - 1) o).map (fun c => 73 :: c) else []) ++ (if i < o then (wd d t i (o - 1)).map (fun c => 79 :: c) else [])
/-- how many there are, from a height -/
def en (d : Nat) : Nat → Nat → Nat
  | 0, h => if h = 0 then 1 else 0
  | t + 1, h => (if 0 < h then en d t (h - 1) else 0) + (if h < d then en d t (h + 1) else 0)
/-- the greatest height on the way -/
def dep : List Int → Int → Int → Int
  | [], _, M => M
  | c :: t, h, M => if c = 73 then dep t (h + 1) (mx M (h + 1)) else dep t (h - 1) (mx M (h - 1))
theorem wl_len : ∀ t i o, (wl t i o).length ≤ 2 ^ t
  | 0, _, _ => by simp [wl]
  | t + 1, i, o => by
    have a := wl_len t (i - 1) o
    have b := wl_len t i (o - 1)
    simp only [wl, List.length_append]
    have : 2 ^ (t + 1) = 2 ^ t + 2 ^ t := by rw [Nat.pow_succ]; omega
    split <;> split <;> simp only [List.length_map, List.length_nil] <;> omega
theorem wl_word : ∀ t i o, i + o = t → i ≤ o → ∀ c ∈ wl t i o, c.length = t ∧ (∀ x ∈ c, x = 73 ∨ x = 79) ∧ hgt c ((o : Int) - (i : Int)) = some 0
  | 0, i, o, ht, _, c, hc => by
    obtain ⟨rfl, rfl⟩ : i = 0 ∧ o = 0 := by omega
    obtain rfl : c = [] := by simpa [wl] using hc
    exact ⟨rfl, by simp, rfl⟩
  | t + 1, i, o, ht, hio, c, hc => by
    simp only [wl, List.mem_append] at hc
    rcases hc with hc | hc
    · by_cases h : 0 < i
      · rw [if_pos h] at hc
        obtain ⟨c', hc', rfl⟩ := List.mem_map.1 hc
        obtain ⟨a1, a2, a3⟩ := wl_word t (i - 1) o (by omega) (by omega) c' hc'
        refine ⟨by simp [a1], ?_, ?_⟩
        · intro x hx
          rcases List.mem_cons.1 hx with rfl | hx
          · exact .inl rfl
          · exact a2 x hx
        · have e : ((o : Int) - ((i - 1 : Nat) : Int)) = (o : Int) - (i : Int) + 1 := by omega
          rw [e] at a3
          simp only [hgt, ↓reduceIte]
          exact a3
      · rw [if_neg h] at hc
        cases hc
    · by_cases h : i < o
      · rw [if_pos h] at hc
        obtain ⟨c', hc', rfl⟩ := List.mem_map.1 hc
        obtain ⟨a1, a2, a3⟩ := wl_word t i (o - 1) (by omega) (by omega) c' hc'
        refine ⟨by simp [a1], ?_, ?_⟩
        · intro x hx
          rcases List.mem_cons.1 hx with rfl | hx
          · exact .inr rfl
          · exact a2 x hx
        · have e : (((o - 1 : Nat) : Int) - (i : Int)) = (o : Int) - (i : Int) - 1 := by omega
          rw [e] at a3
          rw [hgt, if_neg (by decide), if_pos rfl, if_neg (by omega)]
          exact a3
      · rw [if_neg h] at hc
        cases hc
theorem dep_ge : ∀ (c : List Int) (h M : Int), M ≤ dep c h M
  | [], _, _ => Int.le_refl _
  | x :: c, h, M => by
    have m1 : ∀ y, M ≤ mx M y := by intro y; unfold mx; split <;> omega
    simp only [dep]
    split
    · exact Int.le_trans (m1 _) (dep_ge c _ _)
    · exact Int.le_trans (m1 _) (dep_ge c _ _)
theorem mx_le (a b d : Int) : mx a b ≤ d ↔ a ≤ d ∧ b ≤ d := by unfold mx; split <;> omega
theorem wd_filter (d : Nat) : ∀ t i o (M : Int), i + o = t → i ≤ o → o - i ≤ d → M ≤ d → (wl t i o).filter (fun c => decide (dep c ((o : Int) - (i : Int)) M ≤ (d : Int))) = wd d t i o
  | 0, i, o, M, ht, _, _, hM => by
    simp [wl, wd, dep, hM]
  | t + 1, i, o, M, ht, hio, hd, hM => by
    simp only [wl, wd, List.filter_append]
    congr 1
    · by_cases h : 0 < i
      · rw [if_pos h]
        have e : ((o : Int) - ((i - 1 : Nat) : Int)) = (o : Int) - (i : Int) + 1 := by omega
        by_cases hh : o - i < d
        · rw [if_pos ⟨h, hh⟩, ← wd_filter d t (i - 1) o (mx M ((o : Int) - (i : Int) + 1)) (by omega) (by omega) (by omega) ((mx_le _ _ _).2 ⟨hM, by omega⟩), List.filter_map, e]
          rfl
        · rw [if_neg (fun k => hh k.2), List.filter_eq_nil_iff]
          intro c hc
          obtain ⟨c', _, rfl⟩ := List.mem_map.1 hc
          simp only [dep, ↓reduceIte, decide_eq_true_eq]
          have := dep_ge c' ((o : Int) - (i : Int) + 1) (mx M ((o : Int) - (i : Int) + 1))
          have m1 : (o : Int) - (i : Int) + 1 ≤ mx M ((o : Int) - (i : Int) + 1) := by unfold mx; split <;> omega
          omega
      · rw [if_neg h, if_neg (fun k => h k.1)]
        rfl
    · by_cases h : i < o
      · have e : (((o - 1 : Nat) : Int) - (i : Int)) = (o : Int) - (i : Int) - 1 := by omega
        rw [if_pos h, if_pos h, ← wd_filter d t i (o - 1) (mx M ((o : Int) - (i : Int) - 1)) (by omega) (by omega) (by omega) ((mx_le _ _ _).2 ⟨hM, by omega⟩), List.filter_map, e]
        congr 1
      · rw [if_neg h, if_neg h]
        rfl
theorem en_high (d : Nat) : ∀ t h, t < h → en d t h = 0
  | 0, h, hh => by simp only [en]; rw [if_neg (by omega)]
  | t + 1, h, hh => by
    simp only [en]
    rw [en_high d t (h - 1) (by omega), en_high d t (h + 1) (by omega)]
    split <;> split <;> rfl
theorem en_le (d : Nat) : ∀ t h, en d t h ≤ 2 ^ t
  | 0, h => by simp only [en]; split <;> simp
  | t + 1, h => by
    have a := en_le d t (h - 1)
    have b := en_le d t (h + 1)
    simp only [en]
    have : 2 ^ (t + 1) = 2 ^ t + 2 ^ t := by rw [Nat.pow_succ]; omega
    split <;> split <;> omega
theorem wd_len (d : Nat) : ∀ t i o, i + o = t → i ≤ o → o - i ≤ d → (wd d t i o).length = en d t (o - i)
  | 0, i, o, ht, _, _ => by
    obtain ⟨rfl, rfl⟩ : i = 0 ∧ o = 0 := by omega
    rfl
  | t + 1, i, o, ht, hio, hd => by
    simp only [wd, en, List.length_append]
    have p1 : (if 0 < i ∧ o - i < d then (wd d t (i - 1) o).map (fun c => (73 : Int) :: c) else []).length = if o - i < d then en d t (o - i + 1) else 0 := by
      by_cases h : 0 < i
      · by_cases hh : o - i < d
        · rw [if_pos ⟨h, hh⟩, if_pos hh, List.length_map, wd_len d t (i - 1) o (by omega) (by omega) (by omega), show o - (i - 1) = o - i + 1 by omega]
        · rw [if_neg (fun k => hh k.2), if_neg hh]
          rfl
      · rw [if_neg (fun k => h k.1), en_high d t (o - i + 1) (by omega)]
        split <;> rfl
    have p2 : (if i < o then (wd d t i (o - 1)).map (fun c => (79 : Int) :: c) else []).length = if 0 < o - i then en d t (o - i - 1) else 0 := by
      by_cases h : i < o
      · rw [if_pos h, if_pos (by omega), List.length_map, wd_len d t i (o - 1) (by omega) (by omega) (by omega), show o - 1 - i = o - i - 1 by omega]
      · rw [if_neg h, if_neg (by omega)]
        rfl
    rw [p1, p2, Nat.add_comm]
theorem ev_depthW (s : ByteArray) (n : Nat) (hn1 : 1 ≤ n) (hn7 : n ≤ 7) (hs : s.size = 2 * n) (hh : hgt (bs s) 0 = some 0) : Ev (fun k => impl_depthOf.f k s) (dep (bs s) 0 0, true) := by
  have go : ∀ (m j : Nat) (h M : Int), j + m = s.size → 0 ≤ h → h ≤ j → hgt ((bs s).drop j) h = some 0 → Ev (fun k => impl_depthOf.l0 k s h M (s.size : Int) (j : Int)) (dep ((bs s).drop j) h M, true) := by
    intro m
    induction m with
    | zero =>
      intro j h M hj h0 hhj hg
      rw [bs_end s j (by omega)] at hg ⊢
      obtain rfl : h = 0 := by simpa [hgt] using hg
      have c : ¬ (j : Int) < (s.size : Int) := by omega
      have e1 := Aside0.mk (show wrap64 ((s.size : Int) / 2) = (n : Int) from by rw [wr (by omega) (by omega)]; omega)
      have e2 : impl_isSize.f (n : Int) = some true := by
        rw [ev_isSize, decide_eq_true (by omega), decide_eq_true (by omega)]
        rfl
      exact Ev.step (f := fun _ => some (M, true)) (fun k => by simp only [impl_depthOf.l0, c, e1.out, e2, Option.bind_some, ↓reduceIte]) (Ev.now _)
    | succ m ih =>
      intro j h M hj h0 hhj hg
      have c : (j : Int) < (s.size : Int) := by omega
      have c0 : 0 ≤ (j : Int) := by omega
      have e1 := Aside0.mk (show wrap64 ((j : Int) + 1) = ((j + 1 : Nat) : Int) from wj (by omega))
      have e2 := Aside0.mk (show wrap64 (h + 1) = h + 1 from wr (by omega) (by omega))
      have e3 := Aside0.mk (show wrap64 (h - 1) = h - 1 from wr (by omega) (by omega))
      rw [bs_drop s j (by omega)] at hg ⊢
      simp only [hgt] at hg
      simp only [dep]
      by_cases h73 : bt s (j : Int) = 73
      · rw [if_pos h73] at hg ⊢
        have b := ih (j + 1) (h + 1) (mx M (h + 1)) (by omega) (by omega) (by omega) hg
        have n1 : ¬ h + 1 < 0 := by omega
        exact Ev.step (fun k => by simp only [impl_depthOf.l0, c, c0, h73, e2.out, n1, e1.out, ↓reduceIte]) b
      · rw [if_neg h73] at hg ⊢
        by_cases h79 : bt s (j : Int) = 79
        · rw [if_pos h79] at hg
          by_cases n1 : h - 1 < 0
          · rw [if_pos n1] at hg
            cases hg
          · rw [if_neg n1] at hg
            have b := ih (j + 1) (h - 1) (mx M (h - 1)) (by omega) (by omega) (by omega) hg
            refine Ev.step (fun k => ?_) b
            simp only [impl_depthOf.l0, c, c0, e3.out, n1, e1.out, ↓reduceIte]
            rw [if_neg h73, if_pos h79]
        · rw [if_neg h79] at hg
          cases hg
  have := go s.size 0 0 0 (by omega) (by omega) (by omega) (by rw [List.drop_zero]; exact hh)
  rw [List.drop_zero] at this
  exact this
/-! ### the reference's count of endings -/
theorem rd_map_range (f : Nat → Int) (n j : Nat) (h : j < n) : rd ((List.range n).map f) (j : Int) = f j := by
  rw [rd_get _ _ (by simpa using h)]
  simp
/-- a row of counts, written up to a place -/
def enRow (d t m : Nat) : List Int := (List.range (d + 1)).map fun k => if k < m then (en d t k : Int) else 0
theorem enRow_len (d t m : Nat) : (enRow d t m).length = d + 1 := by simp [enRow]
theorem enRow_rd (d t m j : Nat) (h : j < d + 1) : rd (enRow d t m) (j : Int) = if j < m then (en d t j : Int) else 0 := rd_map_range _ _ _ h
theorem enRow_set (d t m : Nat) (h : m < d + 1) (x : Int) (hx : x = (en d t m : Int)) : (enRow d t m).set ((m : Int)).toNat x = enRow d t (m + 1) := by
  rw [Int.toNat_natCast]
  apply List.ext_getElem
  · simp [enRow]
  · intro j h1 h2
    rw [List.getElem_set]
    simp only [enRow, List.getElem_map, List.getElem_range]
    by_cases hj : m = j
    · subst hj
      rw [if_pos rfl, if_pos (by omega), hx]
    · rw [if_neg hj]
      by_cases hlt : j < m
      · rw [if_pos hlt, if_pos (by omega)]
      · rw [if_neg hlt, if_neg (by omega)]
theorem enRow_zero (d t : Nat) : enRow d t 0 = List.replicate (d + 1) 0 := by
  apply List.ext_getElem
  · simp [enRow]
  · intro j h1 h2
    simp [enRow]
theorem enRow_start (d : Nat) : (List.replicate (d + 1) (0 : Int)).set 0 1 = enRow d 0 (d + 1) := by
  apply List.ext_getElem
  · simp [enRow]
  · intro j h1 h2
    rw [List.getElem_set]
    simp only [enRow, List.getElem_map, List.getElem_range, List.getElem_replicate, en]
    have hj : j < d + 1 := by simpa [enRow] using h2
    rw [if_pos hj]
    by_cases h : j = 0
    · subst h; rfl
    · rw [if_neg (Ne.symm h), if_neg h]; rfl
set_option maxHeartbeats 4000000 in
theorem ends_l1 (a0 a1 : Int) (d t : Nat) (hd1 : 1 ≤ d) (hd : d ≤ 1000) (ht : t < 60) (x8 : Int) {r : Int} (next : Ev (fun k => spec_l10Ends.l0 k a0 a1 (d : Int) (enRow d (t + 1) (d + 1)) (wrap64 (x8 + 1))) r) :
    ∀ (n m : Nat), m + n = d + 1 → Ev (fun k => spec_l10Ends.l1 k a0 a1 (d : Int) (enRow d t (d + 1)) x8 (enRow d (t + 1) m) (m : Int)) r := by
  intro n
  induction n with
  | zero =>
    intro m hm
    have c : ¬ (m : Int) ≤ (d : Int) := by omega
    obtain rfl : m = d + 1 := by omega
    exact Ev.step (fun k => by simp only [spec_l10Ends.l1, c, ↓reduceIte]) next
  | succ n ih =>
    intro m hm
    have hn := ih (m + 1) (by omega)
    have c : (m : Int) ≤ (d : Int) := by omega
    have c0 : 0 ≤ (m : Int) := by omega
    have cl : (m : Int) < ((enRow d (t + 1) m).length : Int) := by rw [enRow_len]; omega
    have ej := Aside0.mk (show wrap64 ((m : Int) + 1) = ((m + 1 : Nat) : Int) from wj (by omega))
    have r0 : rd (enRow d (t + 1) m) (m : Int) = 0 := by rw [enRow_rd _ _ _ _ (by omega), if_neg (by omega)]
    have pw : ∀ h, (en d t h : Int) ≤ 1152921504606846976 := by
      intro h
      have := en_le d t h
      have h2 : 2 ^ t ≤ 2 ^ 60 := Nat.pow_le_pow_right (by omega) (by omega)
      have h3 : (2 : Nat) ^ 60 = 1152921504606846976 := by decide
      omega
    by_cases hm0 : 0 < m
    · have g0 : (m : Int) > 0 := by omega
      have em := Aside0.mk (show wrap64 ((m : Int) - 1) = ((m - 1 : Nat) : Int) from by rw [wr (by omega) (by omega)]; omega)
      have c1 : 0 ≤ ((m - 1 : Nat) : Int) := by omega
      have c2 : ((m - 1 : Nat) : Int) < ((enRow d t (d + 1)).length : Int) := by rw [enRow_len]; omega
      have r1 : rd (enRow d t (d + 1)) ((m - 1 : Nat) : Int) = (en d t (m - 1) : Int) := by rw [enRow_rd _ _ _ _ (by omega), if_pos (by omega)]
      by_cases hmd : m < d
      · have cd : (m : Int) < (d : Int) := by omega
        have c3 : 0 ≤ ((m + 1 : Nat) : Int) := by omega
        have c4 : ((m + 1 : Nat) : Int) < ((enRow d t (d + 1)).length : Int) := by rw [enRow_len]; omega
        have r2 : rd (enRow d t (d + 1)) ((m + 1 : Nat) : Int) = (en d t (m + 1) : Int) := by rw [enRow_rd _ _ _ _ (by omega), if_pos (by omega)]
        have w1 : Aside0 (wrap64 (0 + (en d t (m - 1) : Int)) = (en d t (m - 1) : Int)) := ⟨by have := pw (m - 1); rw [wr (by omega) (by omega)]; omega⟩
        have r3 : rd ((enRow d (t + 1) m).set ((m : Int)).toNat (en d t (m - 1) : Int)) (m : Int) = (en d t (m - 1) : Int) := by
          rw [rd_get _ _ (by rw [List.length_set, enRow_len]; omega)]
          simp
        have w2 : Aside0 (wrap64 ((en d t (m - 1) : Int) + (en d t (m + 1) : Int)) = (en d (t + 1) m : Int)) := by
          refine ⟨?_⟩
          have := pw (m - 1)
          have := pw (m + 1)
          rw [wr (by omega) (by omega)]
          simp only [en]
          rw [if_pos hm0, if_pos hmd]
          omega
        refine Ev.step (fun k => ?_) hn
        simp only [spec_l10Ends.l1, c, g0, c0, cl, em.out, c1, c2, r0, r1, w1.out, cd, ej.out, c3, c4, r2, r3, w2.out, Option.bind_some, ↓reduceIte]
        rw [List.set_set, enRow_set d (t + 1) m (by omega) _ rfl]
      · have cd : ¬ (m : Int) < (d : Int) := by omega
        have w1 : Aside0 (wrap64 (0 + (en d t (m - 1) : Int)) = (en d (t + 1) m : Int)) := by
          refine ⟨?_⟩
          have := pw (m - 1)
          rw [wr (by omega) (by omega)]
          simp only [en]
          rw [if_pos hm0, if_neg hmd]
          omega
        refine Ev.step (fun k => ?_) hn
        simp only [spec_l10Ends.l1, c, g0, c0, cl, em.out, c1, c2, r0, r1, w1.out, cd, ej.out, Option.bind_some, ↓reduceIte]
        rw [enRow_set d (t + 1) m (by omega) _ rfl]
    · have g0 : ¬ (m : Int) > 0 := by omega
      have hmd : m < d := by omega
      have cd : (m : Int) < (d : Int) := by omega
      have c3 : 0 ≤ ((m + 1 : Nat) : Int) := by omega
      have c4 : ((m + 1 : Nat) : Int) < ((enRow d t (d + 1)).length : Int) := by rw [enRow_len]; omega
      have r2 : rd (enRow d t (d + 1)) ((m + 1 : Nat) : Int) = (en d t (m + 1) : Int) := by rw [enRow_rd _ _ _ _ (by omega), if_pos (by omega)]
      have w2 : Aside0 (wrap64 (0 + (en d t (m + 1) : Int)) = (en d (t + 1) m : Int)) := by
        refine ⟨?_⟩
        have := pw (m + 1)
        rw [wr (by omega) (by omega)]
        simp only [en]
        rw [if_neg hm0, if_pos hmd]
        omega
      refine Ev.step (fun k => ?_) hn
      simp only [spec_l10Ends.l1, c, g0, c0, cl, cd, ej.out, c3, c4, r0, r2, w2.out, ↓reduceIte]
      rw [enRow_set d (t + 1) m (by omega) _ rfl]
theorem ev_ends (h left d : Nat) (hd1 : 1 ≤ d) (hd : d ≤ 1000) (hl : left ≤ 60) : Ev (fun k => spec_l10Ends.f k (h : Int) (left : Int) (d : Int)) (if h > d then 0 else (en d left h : Int)) := by
  have go : ∀ (n t : Nat), t + n = left → Ev (fun k => spec_l10Ends.l0 k (h : Int) (left : Int) (d : Int) (enRow d t (d + 1)) (t : Int)) (if h > d then 0 else (en d left h : Int)) := by
    intro n
    induction n with
    | zero =>
      intro t ht
      obtain rfl : t = left := by omega
      have c : ¬ (t : Int) < (t : Int) := by omega
      by_cases hh : h > d
      · have g : (h : Int) > (d : Int) := by omega
        rw [if_pos hh]
        exact Ev.step (f := fun _ => some 0) (fun k => by simp only [spec_l10Ends.l0, c, g, ↓reduceIte]) (Ev.now _)
      · have g : ¬ (h : Int) > (d : Int) := by omega
        have g0 : 0 ≤ (h : Int) := by omega
        have g1 : (h : Int) < ((enRow d t (d + 1)).length : Int) := by rw [enRow_len]; omega
        have r : rd (enRow d t (d + 1)) (h : Int) = (en d t h : Int) := by rw [enRow_rd _ _ _ _ (by omega), if_pos (by omega)]
        rw [if_neg hh]
        exact Ev.step (f := fun _ => some (en d t h : Int)) (fun k => by simp only [spec_l10Ends.l0, c, g, g0, g1, r, ↓reduceIte]) (Ev.now _)
    | succ n ih =>
      intro t ht
      have c : (t : Int) < (left : Int) := by omega
      have ed := Aside0.mk (show wrap64 ((d : Int) + 1) = ((d + 1 : Nat) : Int) from wj (by omega))
      have c0 : 0 ≤ ((d + 1 : Nat) : Int) := by omega
      have c1 : d + 1 ≤ 35184372088832 := by omega
      have e1 : wrap64 ((t : Int) + 1) = ((t + 1 : Nat) : Int) := wj (by omega)
      have nx := ih (t + 1) (by omega)
      rw [← e1] at nx
      have := ends_l1 (h : Int) (left : Int) d t hd1 hd (by omega) (t : Int) nx (d + 1) 0 (by omega)
      rw [enRow_zero] at this
      refine Ev.step (fun k => ?_) this
      simp only [spec_l10Ends.l0, c, ed.out, c0, c1, ↓reduceIte, Int.toNat_natCast]
      rfl
  have ed := Aside0.mk (show wrap64 ((d : Int) + 1) = ((d + 1 : Nat) : Int) from wj (by omega))
  have c0 : 0 ≤ ((d + 1 : Nat) : Int) := by omega
  have c1 : d + 1 ≤ 35184372088832 := by omega
  have c2 : 0 < ((List.replicate (d + 1) (0 : Int)).length : Int) := by rw [List.length_replicate]; omega
  have st := go left 0 (by omega)
  rw [← enRow_start] at st
  unfold spec_l10Ends.f
  refine Ev.congr (fun k => ?_) st
  simp only [ed.out, c0, c1, ↓reduceIte, Int.toNat_natCast, Option.bind_some, c2]
  rfl
theorem good_of {n d : Int} (h : (decide (1 ≤ n) && decide (n ≤ 7)) && (decide (1 ≤ d) && decide (d ≤ 7)) = true) : ∃ n' d' : Nat, n = (n' : Int) ∧ d = (d' : Int) ∧ 1 ≤ n' ∧ n' ≤ 7 ∧ 1 ≤ d' ∧ d' ≤ 7 := by
  simp only [Bool.and_eq_true, decide_eq_true_eq] at h
  exact ⟨n.toNat, d.toNat, by omega, by omega, by omega, by omega, by omega, by omega⟩
theorem ev_l10Good (n d : Int) : spec_l10Good.f n d = some ((decide (1 ≤ n) && decide (n ≤ 7)) && (decide (1 ≤ d) && decide (d ≤ 7))) := by
  unfold spec_l10Good.f
  rw [ev_l1In', Option.bind_some, (ev_limits d).1]
  cases (decide (1 ≤ n) && decide (n ≤ 7)) <;> simp
theorem ev_sorted (n : Nat) (hn : n ≤ 1000) : Ev (fun k => impl_sorted.f k (n : Int)) (iota 1 n) := by
  have go : ∀ (m j : Nat), j + m = n → Ev (fun k => impl_sorted.l0 k (iota 1 j) (n : Int) (j : Int)) (iota 1 n) := by
    intro m
    induction m with
    | zero =>
      intro j hj
      have c : ¬ (j : Int) < (n : Int) := by omega
      obtain rfl : j = n := by omega
      exact Ev.step (f := fun _ => some (iota 1 j)) (fun k => by simp only [impl_sorted.l0, c, ↓reduceIte]) (Ev.now _)
    | succ m ih =>
      intro j hj
      have c : (j : Int) < (n : Int) := by omega
      have lim : (iota 1 j).length < 17592186044416 := by rw [iota_length]; omega
      have e := Aside0.mk (show wrap64 ((j : Int) + 1) = ((j + 1 : Nat) : Int) from wj (by omega))
      refine Ev.step (fun k => ?_) (ih (j + 1) (by omega))
      simp only [impl_sorted.l0, c, lim, e.out, ↓reduceIte]
      rw [iota_succ, show (1 : Int) + (j : Int) = ((j + 1 : Nat) : Int) by omega]
  exact go n 0 (by omega)
/-! ### all orders of so many numbers -/
def fct : Nat → Nat
  | 0 => 1
  | n + 1 => (n + 1) * fct n
theorem fct_pos : ∀ n, 0 < fct n
  | 0 => by decide
  | n + 1 => Nat.mul_pos (by omega) (fct_pos n)
theorem ev_factorial (m : Nat) (h : m ≤ 7) : Ev (fun k => impl_factorial.f k (m : Int)) (fct m : Int) := by
  have hm : m = 0 ∨ m = 1 ∨ m = 2 ∨ m = 3 ∨ m = 4 ∨ m = 5 ∨ m = 6 ∨ m = 7 := by omega
  rcases hm with rfl | rfl | rfl | rfl | rfl | rfl | rfl | rfl <;> exact Ev.of (fun k => impl_factorial.mono _ k) (k := 20) (by decide +kernel)
theorem fct_le : ∀ m, m ≤ 7 → fct m ≤ 5040 := by
  intro m h
  have hm : m = 0 ∨ m = 1 ∨ m = 2 ∨ m = 3 ∨ m = 4 ∨ m = 5 ∨ m = 6 ∨ m = 7 := by omega
  rcases hm with rfl | rfl | rfl | rfl | rfl | rfl | rfl | rfl <;> decide
/-- The order with a rank, out of the numbers that are left. -/
def unr : Nat → List Int → Nat → List Int
  | 0, _, _ => []
  | m + 1, left, k => rd left ((k / fct m : Nat) : Int) :: unr m (left.eraseIdx (k / fct m)) (k % fct m)
theorem unr_len : ∀ m left k, (unr m left k).length = m
  | 0, _, _ => rfl
  | m + 1, left, k => by rw [unr, List.length_cons, unr_len m]
theorem unr_perm : ∀ (m : Nat) (left : List Int) (k : Nat), left.length = m → k < fct m → (unr m left k).Perm left
  | 0, left, k, hl, _ => by
    obtain rfl := List.eq_nil_of_length_eq_zero hl
    exact List.Perm.refl _
  | m + 1, left, k, hl, hk => by
    have hq : k / fct m < left.length := by
      rw [hl]
      exact Nat.div_lt_of_lt_mul (by rw [Nat.mul_comm]; exact hk)
    have ih := unr_perm m (left.eraseIdx (k / fct m)) (k % fct m) (by rw [List.length_eraseIdx_of_lt hq]; omega) (Nat.mod_lt _ (fct_pos m))
    rw [unr, rd_get left _ hq]
    refine (List.Perm.cons _ ih).trans ?_
    rw [List.eraseIdx_eq_take_drop_succ]
    have h1 : left = left.take (k / fct m) ++ left[k / fct m] :: left.drop (k / fct m + 1) := by
      rw [← List.drop_eq_getElem_cons hq, List.take_append_drop]
    exact (List.perm_middle.symm.trans (by rw [← h1]))
theorem ev_orderAt0 : ∀ (m : Nat) (left out : List Int) (k : Nat), left.length = m → m ≤ 7 → k < fct m → out.length + m ≤ 100 → Ev (fun K => impl_orderAt.l0 K (m + 1) (k : Int) left out) (out ++ unr m left k)
  | 0, left, out, k, hl, _, _, _ => by
    have c : ¬ 0 < left.length := by omega
    rw [unr, List.append_nil]
    exact Ev.congr (f := fun _ => some out) (fun K => by simp only [impl_orderAt.l0, c, ↓reduceIte]) (Ev.now _)
  | m + 1, left, out, k, hl, hm, hk, ho => by
    have c : 0 < left.length := by omega
    have hq : k / fct m < left.length := by
      rw [hl]
      exact Nat.div_lt_of_lt_mul (by rw [Nat.mul_comm]; exact hk)
    have hkb := fct_le (m + 1) hm
    have hp := fct_pos m
    have hdk : k / fct m ≤ k := Nat.div_le_self _ _
    obtain ⟨q, hqe⟩ : ∃ q : Nat, q = k / fct m := ⟨_, rfl⟩
    rw [← hqe] at hq hdk
    have HQE := Aside0.mk hqe
    clear hqe
    have e1 := Aside0.mk (show wrap64 ((left.length : Int) - 1) = (m : Int) from by rw [wr (by omega) (by omega)]; omega)
    have e2 := Aside0.mk (show wrap64 (Int.tdiv (k : Int) (fct m : Int)) = (q : Int) from by rw [← Int.ofNat_tdiv, ← HQE.out, wr (by omega) (by omega)])
    have e3 := Aside0.mk (show Int.tmod (k : Int) (fct m : Int) = ((k % fct m : Nat) : Int) from (Int.ofNat_tmod _ _).symm)
    have n0 : ¬ (fct m : Int) = 0 := by omega
    have c2 : 0 ≤ (q : Int) ∧ (q : Int) < (left.length : Int) ∧ out.length < 1000 := ⟨by omega, by omega, by omega⟩
    have ih := ev_orderAt0 m (left.eraseIdx q) (out ++ [rd left (q : Int)]) (k % fct m) (by rw [List.length_eraseIdx_of_lt hq]; omega) (by omega) (Nat.mod_lt _ hp) (by rw [List.length_append, List.length_singleton]; omega)
    rw [unr, ← HQE.out, List.append_cons]
    refine Ev.congr (f := fun K => (impl_factorial.f K (m : Int)).bind fun p => if p = 0 then none else if 0 ≤ wrap64 (Int.tdiv (k : Int) p) ∧ wrap64 (Int.tdiv (k : Int) p) < (left.length : Int) ∧ out.length < 1000 then impl_orderAt.l0 K (m + 1) (Int.tmod (k : Int) p) (left.eraseIdx (wrap64 (Int.tdiv (k : Int) p)).toNat) (out ++ [rd left (wrap64 (Int.tdiv (k : Int) p))]) else none) (fun K => ?_) (Ev.bind (ev_factorial m (by omega)) ?_)
    · rw [impl_orderAt.l0, if_pos c, e1.out]
    · simp only [if_neg n0, e2.out, e3.out, if_pos c2, Int.toNat_natCast]
      exact ih
theorem ev_orderAt (n k : Nat) (h1 : 1 ≤ n) (h7 : n ≤ 7) (hk : k < fct n) : Ev (fun K => impl_orderAt.f K (n : Int) (k : Int)) (unr n (iota 1 n) k) := by
  unfold impl_orderAt.f
  refine Ev.bind (ev_sorted n (by omega)) ?_
  have c : 0 < (iota 1 n).length := by rw [iota_length]; omega
  simp only [if_pos c]
  have := ev_orderAt0 n (iota 1 n) [] k (iota_length _ _) h7 hk (by simp; omega)
  rw [List.nil_append] at this
  rw [iota_length]
  exact this
/-- All orders of n numbers. -/
def ords (n : Nat) : List (List Int) := (List.range (fct n)).map (unr n (iota 1 n))
theorem ords_len (n : Nat) : (ords n).length = fct n := by simp [ords]
theorem ords_take (n j : Nat) (h : j < fct n) : (List.range (j + 1)).map (unr n (iota 1 n)) = (List.range j).map (unr n (iota 1 n)) ++ [unr n (iota 1 n) j] := by
  rw [List.range_succ, List.map_append]
  rfl
theorem ev_allOrders (n : Nat) (h1 : 1 ≤ n) (h7 : n ≤ 7) : Ev (fun k => impl_allOrders.f k (n : Int)) (ords n) := by
  have hb := fct_le n h7
  have go : ∀ (m j : Nat), j + m = fct n → Ev (fun k => impl_allOrders.l0 k (n : Int) ((List.range j).map (unr n (iota 1 n))) (fct n : Int) (j : Int)) (ords n) := by
    intro m
    induction m with
    | zero =>
      intro j hj
      have c : ¬ (j : Int) < (fct n : Int) := by omega
      obtain rfl : j = fct n := by omega
      exact Ev.step (f := fun _ => some (ords n)) (fun k => by simp only [impl_allOrders.l0, c, ↓reduceIte]; rfl) (Ev.now _)
    | succ m ih =>
      intro j hj
      have c : (j : Int) < (fct n : Int) := by omega
      have lim : ((List.range j).map (unr n (iota 1 n))).length < 5864062014805 := by rw [List.length_map, List.length_range]; omega
      have e := Aside0.mk (show wrap64 ((j : Int) + 1) = ((j + 1 : Nat) : Int) from wj (by omega))
      have nx := ih (j + 1) (by omega)
      rw [ords_take n j (by omega)] at nx
      refine Ev.step (f := fun k => (impl_orderAt.f k (n : Int) (j : Int)).bind fun t692 => (if ((List.range j).map (unr n (iota 1 n))).length < 5864062014805 then (impl_allOrders.l0 k (n : Int) ((List.range j).map (unr n (iota 1 n)) ++ [t692]) (fct n : Int) ((j + 1 : Nat) : Int)) else (none))) (fun k => by simp only [impl_allOrders.l0, c, e.out, ↓reduceIte]) (Ev.bind (ev_orderAt n j h1 h7 (by omega)) ?_)
      simp only [lim, ↓reduceIte]
      exact nx
  unfold impl_allOrders.f
  exact Ev.bind (ev_factorial n h7) (go (fct n) 0 (by omega))
theorem ords_mem {n : Nat} {o : List Int} (h : o ∈ ords n) : o.Perm (iota 1 n) ∧ o.length = n := by
  obtain ⟨k, hk, rfl⟩ := List.mem_map.1 h
  exact ⟨unr_perm n (iota 1 n) k (iota_length _ _) (List.mem_range.1 hk), unr_len _ _ _⟩
/-! ### the word by which a target comes out, in plain words (the stack with its top first) -/
def wt : Nat → List Int → List Int → List Int → List Int → List Int × Bool
  | 0, _, _, _, _ => ([], false)
  | f + 1, rest, st, t, out => match t with
    | [] => (out, true)
    | n :: t' => if st.head? = some n then wt f rest st.tail t' (out ++ [79]) else match rest with
      | [] => ([], false)
      | y :: r => wt f r (y :: st) (n :: t') (out ++ [73])
theorem wt_end (f : Nat) (rest st out : List Int) : wt (f + 1) rest st [] out = (out, true) := rfl
theorem wt_pop (f : Nat) (rest st t out : List Int) (n : Int) (h : st.head? = some n) : wt (f + 1) rest st (n :: t) out = wt f rest st.tail t (out ++ [79]) := by
  conv => lhs; unfold wt
  simp only [h, ↓reduceIte]
theorem wt_none (f : Nat) (st t out : List Int) (n : Int) (h : ¬ st.head? = some n) : wt (f + 1) [] st (n :: t) out = ([], false) := by
  conv => lhs; unfold wt
  simp only [h, ↓reduceIte]
theorem wt_push (f : Nat) (r st t out : List Int) (n y : Int) (h : ¬ st.head? = some n) : wt (f + 1) (y :: r) st (n :: t) out = wt f r (y :: st) (n :: t) (out ++ [73]) := by
  conv => lhs; unfold wt
  simp only [h, ↓reduceIte]
theorem rev_last (x : Int) (st : List Int) : rd (x :: st).reverse ((st.length : Nat) : Int) = x := by
  rw [rd_get _ _ (by simp)]
  simp
theorem wt_l1 (t : List Int) (ht : t.length ≤ 100) : ∀ (f : Nat) (rest st out : List Int) (j : Nat), j < t.length → 2 * rest.length + st.length + (t.length - j) + 1 ≤ f → rest.length + st.length ≤ 100 → out.length + 2 * rest.length + st.length ≤ 1000 → out.length ≤ 1000 →
    Ev (fun k => impl_wordTo.l1 k rest st.reverse out (rd t (j : Int)) t (t.length : Int) (j : Int)) (strOfNums (wt f rest st (t.drop j) out).1, (wt f rest st (t.drop j) out).2)
  | 0, rest, st, out, j, hj, hf, _, _, _ => by omega
  | f + 1, rest, st, out, j, hj, hf, hn, ho, ho2 => by
    have cj0 : 0 ≤ (j : Int) := by omega
    have cj : (j : Int) < (t.length : Int) := by omega
    rw [rd_drop t j hj]
    have lim : ∀ y : Int, st.reverse.length + ([y] : List Int).length < 17592186044416 := by intro y; simp; omega
    have limo : out.length + ([73] : List Int).length < 140737488355328 := by simp; omega
    have limo' : out.length + ([79] : List Int).length < 140737488355328 := by simp; omega
    have ej := Aside0.mk (show wrap64 ((j : Int) + 1) = ((j + 1 : Nat) : Int) from wj (by omega))
    -- one more is pushed, or none is left
    have push : ¬ st.head? = some (rd t (j : Int)) → Ev (fun k => impl_wordTo.j2 k rest st.reverse out (rd t (j : Int)) t (t.length : Int) (j : Int) true) (strOfNums (wt (f + 1) rest st (rd t (j : Int) :: t.drop (j + 1)) out).1, (wt (f + 1) rest st (rd t (j : Int) :: t.drop (j + 1)) out).2) := by
      intro hnh
      cases rest with
      | nil =>
        rw [wt_none _ _ _ _ _ hnh]
        exact Ev.step (f := fun _ => some ((⟨#[]⟩ : ByteArray), false)) (fun k => by simp only [impl_wordTo.j2, List.length_nil, Int.natCast_zero, ↓reduceIte] <;> rfl) (Ev.now _)
      | cons y q =>
        rw [wt_push _ _ _ _ _ _ _ hnh, ← rd_drop t j hj]
        have g : ¬ (((y :: q).length : Nat) : Int) = 0 := by rw [List.length_cons]; omega
        have g0 : 0 < (((y :: q).length : Nat) : Int) := by rw [List.length_cons]; omega
        have g1 : 1 ≤ (((y :: q).length : Nat) : Int) := by rw [List.length_cons]; omega
        have r0 : rd (y :: q) 0 = y := rfl
        simp only [List.length_cons] at hf hn ho
        have ih := wt_l1 t ht f q (y :: st) (out ++ [73]) j hj (by simp only [List.length_cons]; omega) (by simp only [List.length_cons]; omega) (by simp only [List.length_cons, List.length_append, List.length_nil]; omega) (by simp only [List.length_append, List.length_cons, List.length_nil]; omega)
        rw [List.reverse_cons] at ih
        refine Ev.step (fun k => ?_) ih
        simp only [impl_wordTo.j2, g, g0, g1, r0, lim, limo, Option.bind_some, ↓reduceIte, List.drop_one, List.tail_cons]
    cases st with
    | nil =>
      have z : ((([] : List Int).reverse).length : Int) = 0 := rfl
      refine Ev.step (f := fun k => impl_wordTo.j2 k rest [].reverse out (rd t (j : Int)) t (t.length : Int) (j : Int) true) (fun k => by simp only [impl_wordTo.l1, z, ↓reduceIte]) ?_
      exact push (by simp)
    | cons x st =>
      have hlen : ((x :: st).reverse.length : Int) = (st.length : Int) + 1 := by simp
      have z : ¬ ((x :: st).reverse.length : Int) = 0 := by rw [hlen]; omega
      have et := Aside0.mk (show wrap64 (((x :: st).reverse.length : Int) - 1) = (st.length : Int) from by rw [hlen, wr (by simp only [List.length_cons] at hn; omega) (by simp only [List.length_cons] at hn; omega)]; omega)
      have t0 : 0 ≤ (st.length : Int) := by omega
      have t1 : (st.length : Int) < ((x :: st).reverse.length : Int) := by rw [hlen]; omega
      have t2 : (st.length : Int) ≤ ((x :: st).reverse.length : Int) := by rw [hlen]; omega
      have etop := rev_last x st
      by_cases hx : x = rd t (j : Int)
      · have hne : (x != rd t (j : Int)) = false := by rw [hx]; exact bne_self_eq_false _
        have hw : wt (f + 1) rest (x :: st) (rd t (j : Int) :: t.drop (j + 1)) out = wt f rest st (t.drop (j + 1)) (out ++ [79]) := wt_pop _ _ _ _ _ _ (by rw [hx]; rfl)
        rw [hw]
        have htk : (x :: st).reverse.take ((st.length : Nat) : Int).toNat = st.reverse := by
          rw [Int.toNat_natCast, List.reverse_cons, List.take_left' (by simp)]
        refine Ev.step (f := fun k => impl_wordTo.j2 k rest (x :: st).reverse out (rd t (j : Int)) t (t.length : Int) (j : Int) false) (fun k => by simp only [impl_wordTo.l1, z, et.out, t0, t1, etop, hne, ↓reduceIte]) ?_
        refine Ev.step (f := fun k => impl_wordTo.l0 k rest st.reverse (out ++ [79]) t (t.length : Int) ((j + 1 : Nat) : Int)) (fun k => by simp only [impl_wordTo.j2, et.out, t0, t2, limo', Option.bind_some, htk, ej.out, Bool.false_eq_true, ↓reduceIte]) ?_
        by_cases hj1 : j + 1 < t.length
        · have c1 : ((j + 1 : Nat) : Int) < (t.length : Int) := by omega
          have c0 : 0 ≤ ((j + 1 : Nat) : Int) := by omega
          simp only [List.length_cons] at hf hn ho
          have ih := wt_l1 t ht f rest st (out ++ [79]) (j + 1) hj1 (by omega) (by omega) (by simp only [List.length_append, List.length_cons, List.length_nil]; omega) (by simp only [List.length_append, List.length_cons, List.length_nil]; omega)
          exact Ev.step (fun k => by simp only [impl_wordTo.l0, c1, c0, ↓reduceIte]) ih
        · have c1 : ¬ ((j + 1 : Nat) : Int) < (t.length : Int) := by omega
          rw [List.drop_of_length_le (show t.length ≤ j + 1 by omega)]
          obtain ⟨f, rfl⟩ : ∃ f', f = f' + 1 := ⟨f - 1, by simp only [List.length_cons] at hf; omega⟩
          exact Ev.step (f := fun _ => some (strOfNums (out ++ [79]), true)) (fun k => by simp only [impl_wordTo.l0, c1, ↓reduceIte]) (Ev.now _)
      · have hne : (x != rd t (j : Int)) = true := bne_iff_ne.2 hx
        refine Ev.step (f := fun k => impl_wordTo.j2 k rest (x :: st).reverse out (rd t (j : Int)) t (t.length : Int) (j : Int) true) (fun k => by simp only [impl_wordTo.l1, z, et.out, t0, t1, etop, hne, ↓reduceIte]) ?_
        exact push (by simpa using hx)
theorem ev_wt (l t : List Int) (hl : l.length ≤ 40) (ht : t.length ≤ 100) (h1 : 1 ≤ t.length) (f : Nat) (hf : 2 * l.length + t.length + 1 ≤ f) : Ev (fun k => impl_wordTo.f k l t) (strOfNums (wt f l [] t []).1, (wt f l [] t []).2) := by
  have c : (0 : Int) < (t.length : Int) := by omega
  have := wt_l1 t ht f l [] [] 0 (by omega) (by simp; omega) (by simp; omega) (by simp; omega) (by simp)
  rw [List.drop_zero] at this
  unfold impl_wordTo.f
  exact Ev.step (fun k => by simp only [impl_wordTo.l0, c, Int.le_refl, ↓reduceIte] <;> rfl) this
/-- A word is no beginning alone: it goes up and down, to nothing. -/
theorem wt_hgt : ∀ (f : Nat) (rest st t out : List Int), (wt f rest st t out).2 = true → hgt out 0 = some (st.length : Int) → st.length + rest.length = t.length → hgt (wt f rest st t out).1 0 = some 0 ∧ (wt f rest st t out).1.length = out.length + 2 * rest.length + st.length
  | 0, _, _, _, _, h, _, _ => by cases h
  | f + 1, rest, st, [], out, h, hg, hl => by
    have h0 : st = [] ∧ rest = [] := by
      simp only [List.length_nil] at hl
      exact ⟨List.eq_nil_of_length_eq_zero (by omega), List.eq_nil_of_length_eq_zero (by omega)⟩
    obtain ⟨rfl, rfl⟩ := h0
    rw [wt_end]
    exact ⟨hg, by simp⟩
  | f + 1, rest, st, n :: t, out, h, hg, hl => by
    by_cases hx : st.head? = some n
    · rw [wt_pop _ _ _ _ _ _ hx] at h ⊢
      obtain ⟨s, rfl⟩ : ∃ s, st = n :: s := by
        cases st with
        | nil => cases hx
        | cons x s => obtain rfl := Option.some.inj hx; exact ⟨s, rfl⟩
      rw [List.tail_cons] at h ⊢
      have := wt_hgt f rest s t (out ++ [79]) h (by
        rw [hgt_append, hg, Option.bind_some, hgt, if_neg (by decide), if_pos rfl, if_neg (by simp), hgt]
        simp) (by simp only [List.length_cons] at hl ⊢; omega)
      refine ⟨this.1, ?_⟩
      rw [this.2]
      simp
      omega
    · cases rest with
      | nil => rw [wt_none _ _ _ _ _ hx] at h; cases h
      | cons y r =>
        rw [wt_push _ _ _ _ _ _ _ hx] at h ⊢
        have := wt_hgt f r (y :: st) (n :: t) (out ++ [73]) h (by
          rw [hgt_append, hg, Option.bind_some, hgt, if_pos rfl, hgt]
          simp) (by simp only [List.length_cons] at hl ⊢; omega)
        refine ⟨this.1, ?_⟩
        rw [this.2]
        simp
        omega
/-- The depth of the word that sorts an order, 0 if there is none. -/
def limD (n : Nat) (o : List Int) : Int := if (wt 30 o [] (iota 1 n) []).2 = true then dep (wt 30 o [] (iota 1 n) []).1 0 0 else 0
theorem ev_limD (n : Nat) (h1 : 1 ≤ n) (h7 : n ≤ 7) (o : List Int) (hl : o.length = n) : ∃ r : Int × Bool, Ev (fun k => impl_limitOf.f k o) r ∧ (r.2 = true → r.1 = limD n o) ∧ (r.2 = false → limD n o = 0) ∧ (r.2 = true → 1 ≤ limD n o) := by
  have hi := iota_length 1 n
  have hw := ev_wt o (iota 1 n) (by omega) (by omega) (by omega) 30 (by omega)
  unfold impl_limitOf.f limD
  rw [hl]
  cases hb : (wt 30 o [] (iota 1 n) []).2 with
  | false =>
    rw [hb] at hw
    refine ⟨(0, false), Ev.bind (ev_sorted n (by omega)) (Ev.bind hw ?_), (fun h => by cases h), (fun _ => by simp), (fun h => by cases h)⟩
    simp only [Bool.false_eq_true, ↓reduceIte]
    exact Ev.now _
  | true =>
    rw [hb] at hw
    obtain ⟨a, b⟩ := wt_hgt 30 o [] (iota 1 n) [] hb rfl (by simp; omega)
    have hlen : (wt 30 o [] (iota 1 n) []).1.length = 2 * n := by rw [b]; simp; omega
    have hbs : bs (strOfNums (wt 30 o [] (iota 1 n) []).1) = (wt 30 o [] (iota 1 n) []).1 := bs_son _ (hgt_byte _ _ _ a)
    have hd := ev_depthW (strOfNums (wt 30 o [] (iota 1 n) []).1) n h1 h7 (by rw [son_size]; exact hlen) (by rw [hbs]; exact a)
    rw [hbs] at hd
    refine ⟨(dep (wt 30 o [] (iota 1 n) []).1 0 0, true), Ev.bind (ev_sorted n (by omega)) (Ev.bind hw ?_), (fun _ => by simp), (fun h => by cases h), fun _ => ?_⟩
    · simp only [↓reduceIte]
      exact Ev.bind hd (Ev.now _)
    · simp only [↓reduceIte]
      cases hw' : (wt 30 o [] (iota 1 n) []).1 with
      | nil => rw [hw'] at hlen; simp at hlen; omega
      | cons c q =>
        rw [hw'] at a
        rw [hgt] at a
        have h73 : c = 73 := by
          by_cases h : c = 73
          · exact h
          · rw [if_neg h] at a
            split at a
            · rw [if_pos (by omega)] at a
              cases a
            · cases a
        rw [dep, if_pos h73]
        have := dep_ge q (0 + 1) (mx 0 (0 + 1))
        have m1 : (1 : Int) ≤ mx 0 (0 + 1) := by decide
        omega
/-- How many of some depths are from 1 to d. -/
def cntD (d : Int) (L : List Int) : Nat := (L.filter fun x => decide (1 ≤ x) && decide (x ≤ d)).length
theorem ev_count (n d : Nat) (h1 : 1 ≤ n) (h7 : n ≤ 7) (L : List (List Int)) (hL : ∀ o ∈ L, o.length = n) (hLen : L.length ≤ 10000) : Ev (fun k => impl_CountSortedWithin.l0 k (d : Int) 0 L (L.length : Int) 0) ((cntD d (L.map (limD n)) : Int), true) := by
  have go : ∀ (m j q : Nat), j + m = L.length → q + cntD d ((L.drop j).map (limD n)) = cntD d (L.map (limD n)) → q ≤ j → Ev (fun k => impl_CountSortedWithin.l0 k (d : Int) (q : Int) L (L.length : Int) (j : Int)) ((cntD d (L.map (limD n)) : Int), true) := by
    intro m
    induction m with
    | zero =>
      intro j q hj hq _
      have c : ¬ (j : Int) < (L.length : Int) := by omega
      rw [List.drop_of_length_le (show L.length ≤ j by omega)] at hq
      have e : q = cntD d (L.map (limD n)) := by
        have : cntD d (([] : List (List Int)).map (limD n)) = 0 := rfl
        omega
      rw [← e]
      exact Ev.step (f := fun _ => some ((q : Int), true)) (fun k => by simp only [impl_CountSortedWithin.l0, c, ↓reduceIte]) (Ev.now _)
    | succ m ih =>
      intro j q hj hq hqj
      have c : (j : Int) < (L.length : Int) := by omega
      have c0 : 0 ≤ (j : Int) := by omega
      have hjl : j < L.length := by omega
      have ej := Aside0.mk (show wrap64 ((j : Int) + 1) = ((j + 1 : Nat) : Int) from wj (by omega))
      have eq_ := Aside0.mk (show wrap64 ((q : Int) + 1) = ((q + 1 : Nat) : Int) from wj (by omega))
      have er : rd_L1 L (j : Int) = L[j] := by unfold rd_L1; rw [Int.toNat_natCast]; simp [hjl]
      obtain ⟨r, r1, r2, r3, r4⟩ := ev_limD n h1 h7 L[j] (hL _ (List.getElem_mem hjl))
      have hc : cntD d ((L.drop j).map (limD n)) = (if 1 ≤ limD n L[j] ∧ limD n L[j] ≤ d then 1 else 0) + cntD d ((L.drop (j + 1)).map (limD n)) := by
        rw [List.drop_eq_getElem_cons hjl, List.map_cons]
        unfold cntD
        rw [List.filter_cons]
        by_cases h : 1 ≤ limD n L[j] ∧ limD n L[j] ≤ d
        · rw [if_pos h, if_pos (by simp [h.1, h.2]), List.length_cons]
          omega
        · rw [if_neg h, if_neg (by simpa using h)]
          omega
      rw [hc] at hq
      refine Ev.step (f := fun k => (impl_limitOf.f k L[j]).bind fun bt495 => (if bt495.2 = true then (if bt495.1 ≤ (d : Int) then (impl_CountSortedWithin.l0 k (d : Int) ((q + 1 : Nat) : Int) L (L.length : Int) ((j + 1 : Nat) : Int)) else (impl_CountSortedWithin.l0 k (d : Int) (q : Int) L (L.length : Int) ((j + 1 : Nat) : Int))) else (impl_CountSortedWithin.l0 k (d : Int) (q : Int) L (L.length : Int) ((j + 1 : Nat) : Int)))) (fun k => by simp only [impl_CountSortedWithin.l0, c, c0, er, ej.out, eq_.out, ↓reduceIte]) (Ev.bind r1 ?_)
      cases hb : r.2 with
      | false =>
        have h0 := r3 hb
        rw [if_neg (by omega)] at hq
        simp only [Bool.false_eq_true, ↓reduceIte]
        exact ih (j + 1) q (by omega) (by omega) (by omega)
      | true =>
        have h0 := r2 hb
        have h4 := r4 hb
        simp only [↓reduceIte]
        by_cases hd : r.1 ≤ (d : Int)
        · rw [if_pos (by omega)] at hq
          simp only [hd, ↓reduceIte]
          exact ih (j + 1) (q + 1) (by omega) (by omega) (by omega)
        · rw [if_neg (by omega)] at hq
          simp only [hd, ↓reduceIte]
          exact ih (j + 1) q (by omega) (by omega) (by omega)
  have := go L.length 0 0 (by omega) (by simp) (by omega)
  exact this
theorem counts6 : ∀ n ∈ [1, 2, 3, 4, 5, 6], ∀ d ∈ [1, 2, 3, 4, 5, 6, 7], cntD (d : Nat) ((ords n).map (limD n)) = en d (n + n) 0 := by decide +kernel
theorem counts7 : ∀ d ∈ [1, 2, 3, 4, 5, 6, 7], cntD (d : Nat) ((ords 7).map (limD 7)) = en d 14 0 := by decide +kernel
theorem counts (n d : Nat) (h1 : 1 ≤ n) (h7 : n ≤ 7) (hd1 : 1 ≤ d) (hd7 : d ≤ 7) : cntD (d : Nat) ((ords n).map (limD n)) = en d (n + n) 0 := by
  have hd : d ∈ [1, 2, 3, 4, 5, 6, 7] := by
    have : d = 1 ∨ d = 2 ∨ d = 3 ∨ d = 4 ∨ d = 5 ∨ d = 6 ∨ d = 7 := by omega
    simpa using this
  by_cases h : n = 7
  · subst h
    exact counts7 d hd
  · have hn : n ∈ [1, 2, 3, 4, 5, 6] := by
      have : n = 1 ∨ n = 2 ∨ n = 3 ∨ n = 4 ∨ n = 5 ∨ n = 6 := by omega
      simpa using this
    exact counts6 n hn d hd
theorem FnExactCountSortedWithin : laws_FnExactCountSortedWithin.Pure := by
  intro n d _ _
  have : ∃ r, Ev (fun k => spec_CountSortedWithin.f k n d) r ∧ Ev (fun k => impl_CountSortedWithin.f k n d) r := by
    unfold spec_CountSortedWithin.f impl_CountSortedWithin.f
    simp only [ev_l10Good, ev_isSize, (ev_limits d).2, Option.bind_some]
    have no : Ev (fun K => impl_CountSortedWithin.j0 K n d true) (0, false) := Ev.step (f := fun _ => some (0, false)) (fun K => by simp only [impl_CountSortedWithin.j0, ↓reduceIte]) (Ev.now _)
    cases h1 : (decide (1 ≤ n) && decide (n ≤ 7)) with
    | false =>
      simp only [Bool.false_and, Bool.false_eq_true, ↓reduceIte]
      exact ⟨(0, false), Ev.now _, no⟩
    | true =>
      cases h2 : (decide (1 ≤ d) && decide (d ≤ 7)) with
      | false =>
        simp only [Bool.and_false, Bool.false_eq_true, Bool.not_false, ↓reduceIte]
        exact ⟨(0, false), Ev.now _, no⟩
      | true =>
        obtain ⟨n, d, rfl, rfl, a1, a2, a3, a4⟩ := good_of (n := n) (d := d) (by rw [h1, h2]; rfl)
        have e1 := Aside0.mk (show wrap64 (2 * (n : Int)) = ((n + n : Nat) : Int) by rw [wr (by omega) (by omega)]; omega)
        have he := ev_ends 0 (n + n) d a3 (by omega) (by omega)
        rw [if_neg (by omega)] at he
        refine ⟨((en d (n + n) 0 : Int), true), ?_, ?_⟩
        · simp only [Bool.and_true, ↓reduceIte, e1.out]
          exact Ev.bind he (Ev.now _)
        · simp only [Bool.not_true, ↓reduceIte]
          refine Ev.step (f := fun k => (impl_allOrders.f k (n : Int)).bind fun t491 => (impl_CountSortedWithin.l0 k (d : Int) 0 t491 (t491.length : Int) 0)) (fun K => by simp only [impl_CountSortedWithin.j0, Bool.false_eq_true, ↓reduceIte]) ?_
          refine Ev.bind (ev_allOrders n a1 a2) ?_
          have := ev_count n d a1 a2 (ords n) (fun o ho => (ords_mem ho).2) (by rw [ords_len]; have := fct_le n a2; omega)
          rw [counts n d a1 a2 a3 a4] at this
          exact this
  obtain ⟨r, ⟨K1, h1⟩, ⟨K2, h2⟩⟩ := this
  dsimp only at h1 h2
  refine ⟨K1 + K2, ?_⟩
  unfold laws_FnExactCountSortedWithin.f
  rw [h1 _ (by omega), Option.bind_some, h2 _ (by omega), Option.bind_some, if_pos rfl, bne_self_eq_false]
  rfl

end Go.Proofs.Ytdjbimallgbioaa.Pure
