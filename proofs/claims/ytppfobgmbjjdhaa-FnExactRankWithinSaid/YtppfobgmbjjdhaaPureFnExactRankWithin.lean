/- RankWithin: the program and the reference tell the same rank of every text (of at most 1048576 bytes: of longer ones the law says nothing) and every limit. -/
import Derived.Test.YtppfobgmbjjdhaaXa9
import Derived.Test.YtppfobgmbjjdhaaXa8
import Derived.Test.YtppfobgmbjjdhaaXa3
import Derived.Test.YtppfobgmbjjdhaaXaHdelfunc
import Derived.Test.YtppfobgmbjjdhaaXa7
import Derived.Test.YtppfobgmbjjdhaaXa18
import Derived.Test.YtppfobgmbjjdhaaXa1
import Derived.Test.YtppfobgmbjjdhaaXa6
import Derived.Test.YtppfobgmbjjdhaaPk
set_option linter.unusedVariables false
set_option linter.unusedSimpArgs false
namespace Go.Proofs.Ytppfobgmbjjdhaa.Pure
open Go.RowKit Go.Proofs.Ytppfobgmbjjdhaa.Xa Go.Proofs.YtppfobgmbjjdhaaW.PrintWords Go.Proofs.YtppfobgmbjjdhaaW.PrintLast Go.Proofs.Ytppfobgmbjjdhaa.Pk

/-! ### texts out of numbers -/
theorem son_append (x y : List Int) : strOfNums (x ++ y) = strOfNums x ++ strOfNums y := by
  apply ByteArray.ext
  simp [strOfNums]
theorem son_79 : (⟨#[79]⟩ : ByteArray) = strOfNums [79] := rfl
theorem son_73 : (⟨#[73]⟩ : ByteArray) = strOfNums [73] := rfl
theorem son_size (x : List Int) : (strOfNums x).size = x.length := by simp [strOfNums, ByteArray.size]
theorem bs_son (x : List Int) (h : ∀ c ∈ x, c = 73 ∨ c = 79) : bs (strOfNums x) = x := by
  unfold bs strOfNums
  simp only [List.map_map]
  refine (List.map_congr_left ?_).trans (List.map_id x)
  intro c hc
  rcases h c hc with rfl | rfl <;> rfl
/-- How high the stack stands behind signs. -/
def hgt : List Int → Int → Option Int
  | [], h => some h
  | c :: t, h => if c = 73 then hgt t (h + 1) else if c = 79 then (if h - 1 < 0 then none else hgt t (h - 1)) else none
theorem hgt_append : ∀ (a b : List Int) (h : Int), hgt (a ++ b) h = (hgt a h).bind (hgt b)
  | [], b, h => rfl
  | c :: t, b, h => by
    simp only [List.cons_append, hgt]
    split
    · exact hgt_append t b _
    · split
      · split
        · rfl
        · exact hgt_append t b _
      · rfl
theorem hgt_byte : ∀ (l : List Int) (h r : Int), hgt l h = some r → ∀ c ∈ l, c = 73 ∨ c = 79
  | [], _, _, _ => by intro c hc; cases hc
  | x :: t, h, r, e => by
    intro c hc
    simp only [hgt] at e
    split at e
    · rcases List.mem_cons.1 hc with rfl | hc
      · exact .inl (by assumption)
      · exact hgt_byte t _ _ e c hc
    · split at e
      · split at e
        · cases e
        · rcases List.mem_cons.1 hc with rfl | hc
          · exact .inr (by assumption)
          · exact hgt_byte t _ _ e c hc
      · cases e
theorem ev_l1In' (a b c : Int) : spec_l1In.f a b c = some (decide (b ≤ a) && decide (a ≤ c)) := by
  unfold spec_l1In.f
  by_cases h : b ≤ a
  · rw [if_pos h, decide_eq_true h, Bool.true_and]
  · rw [if_neg h, decide_eq_false h, Bool.false_and]
theorem ev_isSize (a : Int) : impl_isSize.f a = some (decide (1 ≤ a) && decide (a ≤ 7)) := by
  unfold impl_isSize.f
  by_cases h : 1 ≤ a
  · rw [if_pos h, decide_eq_true h, Bool.true_and]
  · rw [if_neg h, decide_eq_false h, Bool.false_and]
theorem ev_limits (d : Int) : spec_l10Limit.f d = some (decide (1 ≤ d) && decide (d ≤ 7)) ∧ impl_isLimit.f d = some (decide (1 ≤ d) && decide (d ≤ 7)) := by
  unfold spec_l10Limit.f impl_isLimit.f
  rw [ev_l1In', ev_isSize]
  exact ⟨rfl, rfl⟩
/-! ### words that go on: t signs are left, i of them pushes and o of them pops -/
def wl : Nat → Nat → Nat → List (List Int)
  | 0, _, _ => [[]]
  | t + 1, i, o => (if 0 < i then (wl t (i - 1) o).map (fun c => 73 :: c) else []) ++ (if i < o then (wl t i (o - 1)).map (fun c => 79 :: c) else [])
/-- those that stay within a limit -/
def wd (d : Nat) : Nat → Nat → Nat → List (List Int)
  | 0, _, _ => [[]]
  | t + 1, i, o => (if 0 < i ∧ o - i < d then (wd d t (i - 1) o).map (fun c => 73 :: c) else []) ++ (if i < o then (wd d t i (o - 1)).map (fun c => 79 :: c) else [])
/-- how many there are, from a height -/
def en (d : Nat) : Nat → Nat → Nat
  | 0, h => if h = 0 then 1 else 0
  | t + 1, h => (if 0 < h then en d t (h - 1) else 0) + (if h < d then en d t (h + 1) else 0)
/-- the greatest height on the way -/
def dep : List Int → Int → Int → Int
  | [], _, M => M
  | c :: t, h, M => if c = 73 then dep t (h + 1) (mx M (h + 1)) else dep t (h - 1) (mx M (h - 1))
theorem wl_len : ∀ t i o, (wl t i o).length ≤ 2 ^ t
  | 0, _, _ => by simp [wl]
  | t + 1, i, o => by
    have a := wl_len t (i - 1) o
    have b := wl_len t i (o - 1)
    simp only [wl, List.length_append]
    have : 2 ^ (t + 1) = 2 ^ t + 2 ^ t := by rw [Nat.pow_succ]; omega
    split <;> split <;> simp only [List.length_map, List.length_nil] <;> omega
theorem wl_word : ∀ t i o, i + o = t → i ≤ o → ∀ c ∈ wl t i o, c.length = t ∧ (∀ x ∈ c, x = 73 ∨ x = 79) ∧ hgt c ((o : Int) - (i : Int)) = some 0
  | 0, i, o, ht, _, c, hc => by
    obtain ⟨rfl, rfl⟩ : i = 0 ∧ o = 0 := by omega
    obtain rfl : c = [] := by simpa [wl] using hc
    exact ⟨rfl, by simp, rfl⟩
  | t + 1, i, o, ht, hio, c, hc => by
    simp only [wl, List.mem_append] at hc
    rcases hc with hc | hc
    · by_cases h : 0 < i
      · rw [if_pos h] at hc
        obtain ⟨c', hc', rfl⟩ := List.mem_map.1 hc
        obtain ⟨a1, a2, a3⟩ := wl_word t (i - 1) o (by omega) (by omega) c' hc'
        refine ⟨by simp [a1], ?_, ?_⟩
        · intro x hx
          rcases List.mem_cons.1 hx with rfl | hx
          · exact .inl rfl
          · exact a2 x hx
        · have e : ((o : Int) - ((i - 1 : Nat) : Int)) = (o : Int) - (i : Int) + 1 := by omega
          rw [e] at a3
          simp only [hgt, ↓reduceIte]
          exact a3
      · rw [if_neg h] at hc
        cases hc
    · by_cases h : i < o
      · rw [if_pos h] at hc
        obtain ⟨c', hc', rfl⟩ := List.mem_map.1 hc
        obtain ⟨a1, a2, a3⟩ := wl_word t i (o - 1) (by omega) (by omega) c' hc'
        refine ⟨by simp [a1], ?_, ?_⟩
        · intro x hx
          rcases List.mem_cons.1 hx with rfl | hx
          · exact .inr rfl
          · exact a2 x hx
        · have e : (((o - 1 : Nat) : Int) - (i : Int)) = (o : Int) - (i : Int) - 1 := by omega
          rw [e] at a3
          rw [hgt, if_neg (by decide), if_pos rfl, if_neg (by omega)]
          exact a3
      · rw [if_neg h] at hc
        cases hc
theorem dep_ge : ∀ (c : List Int) (h M : Int), M ≤ dep c h M
  | [], _, _ => Int.le_refl _
  | x :: c, h, M => by
    have m1 : ∀ y, M ≤ mx M y := by intro y; unfold mx; split <;> omega
    simp only [dep]
    split
    · exact Int.le_trans (m1 _) (dep_ge c _ _)
    · exact Int.le_trans (m1 _) (dep_ge c _ _)
theorem mx_le (a b d : Int) : mx a b ≤ d ↔ a ≤ d ∧ b ≤ d := by unfold mx; split <;> omega
theorem wd_filter (d : Nat) : ∀ t i o (M : Int), i + o = t → i ≤ o → o - i ≤ d → M ≤ d → (wl t i o).filter (fun c => decide (dep c ((o : Int) - (i : Int)) M ≤ (d : Int))) = wd d t i o
  | 0, i, o, M, ht, _, _, hM => by
    simp [wl, wd, dep, hM]
  | t + 1, i, o, M, ht, hio, hd, hM => by
    simp only [wl, wd, List.filter_append]
    congr 1
    · by_cases h : 0 < i
      · rw [if_pos h]
        have e : ((o : Int) - ((i - 1 : Nat) : Int)) = (o : Int) - (i : Int) + 1 := by omega
        by_cases hh : o - i < d
        · rw [if_pos ⟨h, hh⟩, ← wd_filter d t (i - 1) o (mx M ((o : Int) - (i : Int) + 1)) (by omega) (by omega) (by omega) ((mx_le _ _ _).2 ⟨hM, by omega⟩), List.filter_map, e]
          rfl
        · rw [if_neg (fun k => hh k.2), List.filter_eq_nil_iff]
          intro c hc
          obtain ⟨c', _, rfl⟩ := List.mem_map.1 hc
          simp only [dep, ↓reduceIte, decide_eq_true_eq]
          have := dep_ge c' ((o : Int) - (i : Int) + 1) (mx M ((o : Int) - (i : Int) + 1))
          have m1 : (o : Int) - (i : Int) + 1 ≤ mx M ((o : Int) - (i : Int) + 1) := by unfold mx; split <;> omega
          omega
      · rw [if_neg h, if_neg (fun k => h k.1)]
        rfl
    · by_cases h : i < o
      · have e : (((o - 1 : Nat) : Int) - (i : Int)) = (o : Int) - (i : Int) - 1 := by omega
        rw [if_pos h, if_pos h, ← wd_filter d t i (o - 1) (mx M ((o : Int) - (i : Int) - 1)) (by omega) (by omega) (by omega) ((mx_le _ _ _).2 ⟨hM, by omega⟩), List.filter_map, e]
        congr 1
      · rw [if_neg h, if_neg h]
        rfl
theorem en_high (d : Nat) : ∀ t h, t < h → en d t h = 0
  | 0, h, hh => by simp only [en]; rw [if_neg (by omega)]
  | t + 1, h, hh => by
    simp only [en]
    rw [en_high d t (h - 1) (by omega), en_high d t (h + 1) (by omega)]
    split <;> split <;> rfl
theorem en_le (d : Nat) : ∀ t h, en d t h ≤ 2 ^ t
  | 0, h => by simp only [en]; split <;> simp
  | t + 1, h => by
    have a := en_le d t (h - 1)
    have b := en_le d t (h + 1)
    simp only [en]
    have : 2 ^ (t + 1) = 2 ^ t + 2 ^ t := by rw [Nat.pow_succ]; omega
    split <;> split <;> omega
theorem wd_len (d : Nat) : ∀ t i o, i + o = t → i ≤ o → o - i ≤ d → (wd d t i o).length = en d t (o - i)
  | 0, i, o, ht, _, _ => by
    obtain ⟨rfl, rfl⟩ : i = 0 ∧ o = 0 := by omega
    rfl
  | t + 1, i, o, ht, hio, hd => by
    simp only [wd, en, List.length_append]
    have p1 : (if 0 < i ∧ o - i < d then (wd d t (i - 1) o).map (fun c => (73 : Int) :: c) else []).length = if o - i < d then en d t (o - i + 1) else 0 := by
      by_cases h : 0 < i
      · by_cases hh : o - i < d
        · rw [if_pos ⟨h, hh⟩, if_pos hh, List.length_map, wd_len d t (i - 1) o (by omega) (by omega) (by omega), show o - (i - 1) = o - i + 1 by omega]
        · rw [if_neg (fun k => hh k.2), if_neg hh]
          rfl
      · rw [if_neg (fun k => h k.1), en_high d t (o - i + 1) (by omega)]
        split <;> rfl
    have p2 : (if i < o then (wd d t i (o - 1)).map (fun c => (79 : Int) :: c) else []).length = if 0 < o - i then en d t (o - i - 1) else 0 := by
      by_cases h : i < o
      · rw [if_pos h, if_pos (by omega), List.length_map, wd_len d t i (o - 1) (by omega) (by omega) (by omega), show o - 1 - i = o - i - 1 by omega]
      · rw [if_neg h, if_neg (by omega)]
        rfl
    rw [p1, p2, Nat.add_comm]
theorem ev_words : ∀ (t i o : Nat) (done : List Int) (l : List ByteArray), i + o = t → i ≤ o → done.length + t ≤ 1000 → l.length + 2 ^ t ≤ 8796093022207 →
    Ev (fun k => impl_words.f k (strOfNums done) (i : Int) (o : Int) l) (l ++ (wl t i o).map (fun c => strOfNums (done ++ c)))
  | 0, i, o, done, l, ht, _, _, hl => by
    obtain ⟨rfl, rfl⟩ : i = 0 ∧ o = 0 := by omega
    have c : l.length < 8796093022208 := by omega
    refine Ev.step (f := fun k => impl_words.j0 k (strOfNums done) 0 0 l true) (fun k => by simp only [impl_words.f]; rfl) ?_
    refine Ev.step (f := fun _ => some (l ++ [strOfNums done])) (fun k => by simp only [impl_words.j0, c, ↓reduceIte]) ?_
    have e : (wl 0 0 0).map (fun c => strOfNums (done ++ c)) = [strOfNums done] := by simp [wl]
    rw [e]
    exact Ev.now _
  | t + 1, i, o, done, l, ht, hio, hdone, hl => by
    have hpow : 2 ^ (t + 1) = 2 ^ t + 2 ^ t := by rw [Nat.pow_succ]; omega
    have hp0 : 0 < 2 ^ t := Nat.two_pow_pos t
    have so : (strOfNums done).size + 1 ≤ 9223372036854775807 := by rw [son_size]; omega
    have f0 : ∀ k, impl_words.f (k + 1) (strOfNums done) (i : Int) (o : Int) l = impl_words.j0 k (strOfNums done) (i : Int) (o : Int) l false := by
      intro k
      simp only [impl_words.f]
      by_cases h : (i : Int) = 0
      · rw [if_pos h]
        have : ((o : Int) == 0) = false := beq_eq_false_iff_ne.2 (by omega)
        rw [this]
      · rw [if_neg h]
    refine Ev.step f0 ?_
    have e73 : strOfNums done ++ (⟨#[73]⟩ : ByteArray) = strOfNums (done ++ [73]) := by rw [son_append, ← son_73]
    have e79 : strOfNums done ++ (⟨#[79]⟩ : ByteArray) = strOfNums (done ++ [79]) := by rw [son_append, ← son_79]
    have m73 : ∀ x : List (List Int), (x.map (fun c => (73 : Int) :: c)).map (fun c => strOfNums (done ++ c)) = x.map (fun c => strOfNums (done ++ [73] ++ c)) := by
      intro x
      rw [List.map_map]
      refine List.map_congr_left fun c _ => ?_
      simp
    have m79 : ∀ x : List (List Int), (x.map (fun c => (79 : Int) :: c)).map (fun c => strOfNums (done ++ c)) = x.map (fun c => strOfNums (done ++ [79] ++ c)) := by
      intro x
      rw [List.map_map]
      refine List.map_congr_left fun c _ => ?_
      simp
    have ei : Aside0 (0 < i → wrap64 ((i : Int) - 1) = ((i - 1 : Nat) : Int)) := ⟨fun h => by rw [wr (by omega) (by omega)]; omega⟩
    have eo : Aside0 (i < o → wrap64 ((o : Int) - 1) = ((o - 1 : Nat) : Int)) := ⟨fun h => by rw [wr (by omega) (by omega)]; omega⟩
    by_cases hi : 0 < i
    · have gi : (i : Int) > 0 := by omega
      have h1 := ev_words t (i - 1) o (done ++ [73]) l (by omega) (by omega) (by simp; omega) (by omega)
      have b1 := wl_len t (i - 1) o
      by_cases ho : i < o
      · have go : (o : Int) > (i : Int) := by omega
        have h2 := ev_words t i (o - 1) (done ++ [79]) (l ++ (wl t (i - 1) o).map (fun c => strOfNums (done ++ [73] ++ c))) (by omega) (by omega) (by simp; omega) (by rw [List.length_append, List.length_map]; omega)
        have e : (wl (t + 1) i o).map (fun c => strOfNums (done ++ c)) = (wl t (i - 1) o).map (fun c => strOfNums (done ++ [73] ++ c)) ++ (wl t i (o - 1)).map (fun c => strOfNums (done ++ [79] ++ c)) := by
          simp only [wl]
          rw [if_pos hi, if_pos ho, List.map_append, m73, m79]
        rw [e, ← List.append_assoc]
        refine Ev.step (f := fun k => (impl_words.f k (strOfNums (done ++ [73])) ((i - 1 : Nat) : Int) (o : Int) l).bind fun t232 => (impl_words.f k (strOfNums (done ++ [79])) (i : Int) ((o - 1 : Nat) : Int) t232).bind fun t235 => some t235) (fun k => ?_) (Ev.bind h1 (Ev.bind h2 (Ev.now _)))
        simp only [impl_words.j0, gi, go, so, ei.out hi, eo.out ho, e73, e79, Bool.false_eq_true, ↓reduceIte]
      · have go : ¬ (o : Int) > (i : Int) := by omega
        have e : (wl (t + 1) i o).map (fun c => strOfNums (done ++ c)) = (wl t (i - 1) o).map (fun c => strOfNums (done ++ [73] ++ c)) := by
          simp only [wl]
          rw [if_pos hi, if_neg ho, List.append_nil, m73]
        rw [e]
        refine Ev.step (f := fun k => (impl_words.f k (strOfNums (done ++ [73])) ((i - 1 : Nat) : Int) (o : Int) l).bind fun t232 => some t232) (fun k => ?_) (Ev.bind h1 (Ev.now _))
        simp only [impl_words.j0, gi, go, so, ei.out hi, e73, Bool.false_eq_true, ↓reduceIte]
    · have gi : ¬ (i : Int) > 0 := by omega
      have ho : i < o := by omega
      have go : (o : Int) > (i : Int) := by omega
      have h2 := ev_words t i (o - 1) (done ++ [79]) l (by omega) (by omega) (by simp; omega) (by omega)
      have e : (wl (t + 1) i o).map (fun c => strOfNums (done ++ c)) = (wl t i (o - 1)).map (fun c => strOfNums (done ++ [79] ++ c)) := by
        simp only [wl]
        rw [if_neg hi, if_pos ho, List.nil_append, m79]
      rw [e]
      refine Ev.step (f := fun k => (impl_words.f k (strOfNums (done ++ [79])) (i : Int) ((o - 1 : Nat) : Int) l).bind fun t238 => some t238) (fun k => ?_) (Ev.bind h2 (Ev.now _))
      simp only [impl_words.j0, gi, go, so, eo.out ho, e79, Bool.false_eq_true, ↓reduceIte]
theorem ev_depthW (s : ByteArray) (n : Nat) (hn1 : 1 ≤ n) (hn7 : n ≤ 7) (hs : s.size = 2 * n) (hh : hgt (bs s) 0 = some 0) : Ev (fun k => impl_depthOf.f k s) (dep (bs s) 0 0, true) := by
  have go : ∀ (m j : Nat) (h M : Int), j + m = s.size → 0 ≤ h → h ≤ j → hgt ((bs s).drop j) h = some 0 → Ev (fun k => impl_depthOf.l0 k s h M (s.size : Int) (j : Int)) (dep ((bs s).drop j) h M, true) := by
    intro m
    induction m with
    | zero =>
      intro j h M hj h0 hhj hg
      rw [bs_end s j (by omega)] at hg ⊢
      obtain rfl : h = 0 := by simpa [hgt] using hg
      have c : ¬ (j : Int) < (s.size : Int) := by omega
      have e1 := Aside0.mk (show wrap64 ((s.size : Int) / 2) = (n : Int) from by rw [wr (by omega) (by omega)]; omega)
      have e2 : impl_isSize.f (n : Int) = some true := by
        rw [ev_isSize, decide_eq_true (by omega), decide_eq_true (by omega)]
        rfl
      exact Ev.step (f := fun _ => some (M, true)) (fun k => by simp only [impl_depthOf.l0, c, e1.out, e2, Option.bind_some, ↓reduceIte]) (Ev.now _)
    | succ m ih =>
      intro j h M hj h0 hhj hg
      have c : (j : Int) < (s.size : Int) := by omega
      have c0 : 0 ≤ (j : Int) := by omega
      have e1 := Aside0.mk (show wrap64 ((j : Int) + 1) = ((j + 1 : Nat) : Int) from wj (by omega))
      have e2 := Aside0.mk (show wrap64 (h + 1) = h + 1 from wr (by omega) (by omega))
      have e3 := Aside0.mk (show wrap64 (h - 1) = h - 1 from wr (by omega) (by omega))
      rw [bs_drop s j (by omega)] at hg ⊢
      simp only [hgt] at hg
      simp only [dep]
      by_cases h73 : bt s (j : Int) = 73
      · rw [if_pos h73] at hg ⊢
        have b := ih (j + 1) (h + 1) (mx M (h + 1)) (by omega) (by omega) (by omega) hg
        have n1 : ¬ h + 1 < 0 := by omega
        exact Ev.step (fun k => by simp only [impl_depthOf.l0, c, c0, h73, e2.out, n1, e1.out, ↓reduceIte]) b
      · rw [if_neg h73] at hg ⊢
        by_cases h79 : bt s (j : Int) = 79
        · rw [if_pos h79] at hg
          by_cases n1 : h - 1 < 0
          · rw [if_pos n1] at hg
            cases hg
          · rw [if_neg n1] at hg
            have b := ih (j + 1) (h - 1) (mx M (h - 1)) (by omega) (by omega) (by omega) hg
            refine Ev.step (fun k => ?_) b
            simp only [impl_depthOf.l0, c, c0, e3.out, n1, e1.out, ↓reduceIte]
            rw [if_neg h73, if_pos h79]
        · rw [if_neg h79] at hg
          cases hg
  have := go s.size 0 0 0 (by omega) (by omega) (by omega) (by rw [List.drop_zero]; exact hh)
  rw [List.drop_zero] at this
  exact this
/-! ### the reference's count of endings -/
theorem rd_map_range (f : Nat → Int) (n j : Nat) (h : j < n) : rd ((List.range n).map f) (j : Int) = f j := by
  rw [rd_get _ _ (by simpa using h)]
  simp
/-- a row of counts, written up to a place -/
def enRow (d t m : Nat) : List Int := (List.range (d + 1)).map fun k => if k < m then (en d t k : Int) else 0
theorem enRow_len (d t m : Nat) : (enRow d t m).length = d + 1 := by simp [enRow]
theorem enRow_rd (d t m j : Nat) (h : j < d + 1) : rd (enRow d t m) (j : Int) = if j < m then (en d t j : Int) else 0 := rd_map_range _ _ _ h
theorem enRow_set (d t m : Nat) (h : m < d + 1) (x : Int) (hx : x = (en d t m : Int)) : (enRow d t m).set ((m : Int)).toNat x = enRow d t (m + 1) := by
  rw [Int.toNat_natCast]
  apply List.ext_getElem
  · simp [enRow]
  · intro j h1 h2
    rw [List.getElem_set]
    simp only [enRow, List.getElem_map, List.getElem_range]
    by_cases hj : m = j
    · subst hj
      rw [if_pos rfl, if_pos (by omega), hx]
    · rw [if_neg hj]
      by_cases hlt : j < m
      · rw [if_pos hlt, if_pos (by omega)]
      · rw [if_neg hlt, if_neg (by omega)]
theorem enRow_zero (d t : Nat) : enRow d t 0 = List.replicate (d + 1) 0 := by
  apply List.ext_getElem
  · simp [enRow]
  · intro j h1 h2
    simp [enRow]
theorem enRow_start (d : Nat) : (List.replicate (d + 1) (0 : Int)).set 0 1 = enRow d 0 (d + 1) := by
  apply List.ext_getElem
  · simp [enRow]
  · intro j h1 h2
    rw [List.getElem_set]
    simp only [enRow, List.getElem_map, List.getElem_range, List.getElem_replicate, en]
    have hj : j < d + 1 := by simpa [enRow] using h2
    rw [if_pos hj]
    by_cases h : j = 0
    · subst h; rfl
    · rw [if_neg (Ne.symm h), if_neg h]; rfl
set_option maxHeartbeats 4000000 in
theorem ends_l1 (a0 a1 : Int) (d t : Nat) (hd1 : 1 ≤ d) (hd : d ≤ 1000) (ht : t < 60) (x8 : Int) {r : Int} (next : Ev (fun k => spec_l10Ends.l0 k a0 a1 (d : Int) (enRow d (t + 1) (d + 1)) (wrap64 (x8 + 1))) r) :
    ∀ (n m : Nat), m + n = d + 1 → Ev (fun k => spec_l10Ends.l1 k a0 a1 (d : Int) (enRow d t (d + 1)) x8 (enRow d (t + 1) m) (m : Int)) r := by
  intro n
  induction n with
  | zero =>
    intro m hm
    have c : ¬ (m : Int) ≤ (d : Int) := by omega
    obtain rfl : m = d + 1 := by omega
    exact Ev.step (fun k => by simp only [spec_l10Ends.l1, c, ↓reduceIte]) next
  | succ n ih =>
    intro m hm
    have hn := ih (m + 1) (by omega)
    have c : (m : Int) ≤ (d : Int) := by omega
    have c0 : 0 ≤ (m : Int) := by omega
    have cl : (m : Int) < ((enRow d (t + 1) m).length : Int) := by rw [enRow_len]; omega
    have ej := Aside0.mk (show wrap64 ((m : Int) + 1) = ((m + 1 : Nat) : Int) from wj (by omega))
    have r0 : rd (enRow d (t + 1) m) (m : Int) = 0 := by rw [enRow_rd _ _ _ _ (by omega), if_neg (by omega)]
    have pw : ∀ h, (en d t h : Int) ≤ 1152921504606846976 := by
      intro h
      have := en_le d t h
      have h2 : 2 ^ t ≤ 2 ^ 60 := Nat.pow_le_pow_right (by omega) (by omega)
      have h3 : (2 : Nat) ^ 60 = 1152921504606846976 := by decide
      omega
    by_cases hm0 : 0 < m
    · have g0 : (m : Int) > 0 := by omega
      have em := Aside0.mk (show wrap64 ((m : Int) - 1) = ((m - 1 : Nat) : Int) from by rw [wr (by omega) (by omega)]; omega)
      have c1 : 0 ≤ ((m - 1 : Nat) : Int) := by omega
      have c2 : ((m - 1 : Nat) : Int) < ((enRow d t (d + 1)).length : Int) := by rw [enRow_len]; omega
      have r1 : rd (enRow d t (d + 1)) ((m - 1 : Nat) : Int) = (en d t (m - 1) : Int) := by rw [enRow_rd _ _ _ _ (by omega), if_pos (by omega)]
      by_cases hmd : m < d
      · have cd : (m : Int) < (d : Int) := by omega
        have c3 : 0 ≤ ((m + 1 : Nat) : Int) := by omega
        have c4 : ((m + 1 : Nat) : Int) < ((enRow d t (d + 1)).length : Int) := by rw [enRow_len]; omega
        have r2 : rd (enRow d t (d + 1)) ((m + 1 : Nat) : Int) = (en d t (m + 1) : Int) := by rw [enRow_rd _ _ _ _ (by omega), if_pos (by omega)]
        have w1 : Aside0 (wrap64 (0 + (en d t (m - 1) : Int)) = (en d t (m - 1) : Int)) := ⟨by have := pw (m - 1); rw [wr (by omega) (by omega)]; omega⟩
        have r3 : rd ((enRow d (t + 1) m).set ((m : Int)).toNat (en d t (m - 1) : Int)) (m : Int) = (en d t (m - 1) : Int) := by
          rw [rd_get _ _ (by rw [List.length_set, enRow_len]; omega)]
          simp
        have w2 : Aside0 (wrap64 ((en d t (m - 1) : Int) + (en d t (m + 1) : Int)) = (en d (t + 1) m : Int)) := by
          refine ⟨?_⟩
          have := pw (m - 1)
          have := pw (m + 1)
          rw [wr (by omega) (by omega)]
          simp only [en]
          rw [if_pos hm0, if_pos hmd]
          omega
        refine Ev.step (fun k => ?_) hn
        simp only [spec_l10Ends.l1, c, g0, c0, cl, em.out, c1, c2, r0, r1, w1.out, cd, ej.out, c3, c4, r2, r3, w2.out, Option.bind_some, ↓reduceIte]
        rw [List.set_set, enRow_set d (t + 1) m (by omega) _ rfl]
      · have cd : ¬ (m : Int) < (d : Int) := by omega
        have w1 : Aside0 (wrap64 (0 + (en d t (m - 1) : Int)) = (en d (t + 1) m : Int)) := by
          refine ⟨?_⟩
          have := pw (m - 1)
          rw [wr (by omega) (by omega)]
          simp only [en]
          rw [if_pos hm0, if_neg hmd]
          omega
        refine Ev.step (fun k => ?_) hn
        simp only [spec_l10Ends.l1, c, g0, c0, cl, em.out, c1, c2, r0, r1, w1.out, cd, ej.out, Option.bind_some, ↓reduceIte]
        rw [enRow_set d (t + 1) m (by omega) _ rfl]
    · have g0 : ¬ (m : Int) > 0 := by omega
      have hmd : m < d := by omega
      have cd : (m : Int) < (d : Int) := by omega
      have c3 : 0 ≤ ((m + 1 : Nat) : Int) := by omega
      have c4 : ((m + 1 : Nat) : Int) < ((enRow d t (d + 1)).length : Int) := by rw [enRow_len]; omega
      have r2 : rd (enRow d t (d + 1)) ((m + 1 : Nat) : Int) = (en d t (m + 1) : Int) := by rw [enRow_rd _ _ _ _ (by omega), if_pos (by omega)]
      have w2 : Aside0 (wrap64 (0 + (en d t (m + 1) : Int)) = (en d (t + 1) m : Int)) := by
        refine ⟨?_⟩
        have := pw (m + 1)
        rw [wr (by omega) (by omega)]
        simp only [en]
        rw [if_neg hm0, if_pos hmd]
        omega
      refine Ev.step (fun k => ?_) hn
      simp only [spec_l10Ends.l1, c, g0, c0, cl, cd, ej.out, c3, c4, r0, r2, w2.out, ↓reduceIte]
      rw [enRow_set d (t + 1) m (by omega) _ rfl]
theorem ev_ends (h left d : Nat) (hd1 : 1 ≤ d) (hd : d ≤ 1000) (hl : left ≤ 60) : Ev (fun k => spec_l10Ends.f k (h : Int) (left : Int) (d : Int)) (if h > d then 0 else (en d left h : Int)) := by
  have go : ∀ (n t : Nat), t + n = left → Ev (fun k => spec_l10Ends.l0 k (h : Int) (left : Int) (d : Int) (enRow d t (d + 1)) (t : Int)) (if h > d then 0 else (en d left h : Int)) := by
    intro n
    induction n with
    | zero =>
      intro t ht
      obtain rfl : t = left := by omega
      have c : ¬ (t : Int) < (t : Int) := by omega
      by_cases hh : h > d
      · have g : (h : Int) > (d : Int) := by omega
        rw [if_pos hh]
        exact Ev.step (f := fun _ => some 0) (fun k => by simp only [spec_l10Ends.l0, c, g, ↓reduceIte]) (Ev.now _)
      · have g : ¬ (h : Int) > (d : Int) := by omega
        have g0 : 0 ≤ (h : Int) := by omega
        have g1 : (h : Int) < ((enRow d t (d + 1)).length : Int) := by rw [enRow_len]; omega
        have r : rd (enRow d t (d + 1)) (h : Int) = (en d t h : Int) := by rw [enRow_rd _ _ _ _ (by omega), if_pos (by omega)]
        rw [if_neg hh]
        exact Ev.step (f := fun _ => some (en d t h : Int)) (fun k => by simp only [spec_l10Ends.l0, c, g, g0, g1, r, ↓reduceIte]) (Ev.now _)
    | succ n ih =>
      intro t ht
      have c : (t : Int) < (left : Int) := by omega
      have ed := Aside0.mk (show wrap64 ((d : Int) + 1) = ((d + 1 : Nat) : Int) from wj (by omega))
      have c0 : 0 ≤ ((d + 1 : Nat) : Int) := by omega
      have c1 : d + 1 ≤ 35184372088832 := by omega
      have e1 : wrap64 ((t : Int) + 1) = ((t + 1 : Nat) : Int) := wj (by omega)
      have nx := ih (t + 1) (by omega)
      rw [← e1] at nx
      have := ends_l1 (h : Int) (left : Int) d t hd1 hd (by omega) (t : Int) nx (d + 1) 0 (by omega)
      rw [enRow_zero] at this
      refine Ev.step (fun k => ?_) this
      simp only [spec_l10Ends.l0, c, ed.out, c0, c1, ↓reduceIte, Int.toNat_natCast]
      rfl
  have ed := Aside0.mk (show wrap64 ((d : Int) + 1) = ((d + 1 : Nat) : Int) from wj (by omega))
  have c0 : 0 ≤ ((d + 1 : Nat) : Int) := by omega
  have c1 : d + 1 ≤ 35184372088832 := by omega
  have c2 : 0 < ((List.replicate (d + 1) (0 : Int)).length : Int) := by rw [List.length_replicate]; omega
  have st := go left 0 (by omega)
  rw [← enRow_start] at st
  unfold spec_l10Ends.f
  refine Ev.congr (fun k => ?_) st
  simp only [ed.out, c0, c1, ↓reduceIte, Int.toNat_natCast, Option.bind_some, c2]
  rfl
theorem wl_ne : ∀ t i o, i + o = t → i ≤ o → wl t i o ≠ []
  | 0, _, _, _, _ => by simp [wl]
  | t + 1, i, o, ht, hio => by
    simp only [wl]
    by_cases h : 0 < i
    · rw [if_pos h]
      have := wl_ne t (i - 1) o (by omega) (by omega)
      intro e
      rw [List.append_eq_nil_iff] at e
      exact this (List.map_eq_nil_iff.1 e.1)
    · rw [if_neg h, if_pos (show i < o by omega), List.nil_append]
      have := wl_ne t i (o - 1) (by omega) (by omega)
      intro e
      exact this (List.map_eq_nil_iff.1 e)
theorem ev_filterD (n d : Nat) (hn1 : 1 ≤ n) (hn7 : n ≤ 7) : ∀ L : List (List Int), (∀ c ∈ L, c.length = 2 * n ∧ (∀ x ∈ c, x = 73 ∨ x = 79) ∧ hgt c 0 = some 0) → Ev (fun k => filterD k (d : Int) (L.map strOfNums)) ((L.filter (fun c => decide (dep c 0 0 ≤ (d : Int)))).map strOfNums)
  | [], _ => Ev.now _
  | c :: t, h => by
    obtain ⟨h1, h2, h3⟩ := h c (by simp)
    have e := bs_son c h2
    have hd := ev_depthW (strOfNums c) n hn1 hn7 (by rw [son_size]; exact h1) (by rw [e]; exact h3)
    rw [e] at hd
    have ih := ev_filterD n d hn1 hn7 t (fun c hc => h c (by simp [hc]))
    show Ev (fun k => (impl_depthOf.f k (strOfNums c)).bind fun r => (filterD k (d : Int) (t.map strOfNums)).bind fun u => some (if (d : Int) < r.1 then u else strOfNums c :: u)) _
    rw [List.filter_cons]
    refine Ev.bind hd ?_
    refine Ev.bind ih ?_
    by_cases hx : dep c 0 0 ≤ (d : Int)
    · have hn : ¬ (d : Int) < dep c 0 0 := by omega
      simp only [hn, hx, decide_true, List.map_cons, ↓reduceIte]
      exact Ev.now _
    · have hn : (d : Int) < dep c 0 0 := by omega
      simp only [hn, hx, decide_false, Bool.false_eq_true, ↓reduceIte]
      exact Ev.now _
theorem ev_within (n d : Nat) (hn1 : 1 ≤ n) (hn7 : n ≤ 7) (hd1 : 1 ≤ d) : Ev (fun k => impl_within.f k (n : Int) (d : Int)) ((wd d (n + n) n n).map strOfNums) := by
  have hw := ev_words (n + n) n n [] [] rfl (Nat.le_refl _) (by simp; omega) (by
    have h2 : 2 ^ (n + n) ≤ 2 ^ 14 := Nat.pow_le_pow_right (by omega) (by omega)
    have h3 : (2 : Nat) ^ 14 = 16384 := by decide
    simp only [List.length_nil]
    omega)
  simp only [List.nil_append] at hw
  have hW := wl_word (n + n) n n rfl (Nat.le_refl _)
  have hf := ev_filterD n d hn1 hn7 (wl (n + n) n n) (fun c hc => by
    obtain ⟨a, b, e⟩ := hW c hc
    rw [Int.sub_self] at e
    exact ⟨by omega, b, e⟩)
  have hwd := wd_filter d (n + n) n n 0 rfl (Nat.le_refl _) (by omega) (by omega)
  rw [Int.sub_self] at hwd
  rw [hwd] at hf
  unfold impl_within.f
  refine Ev.bind hw ?_
  have hne : ((wl (n + n) n n).map strOfNums).isEmpty = false := by
    cases h : wl (n + n) n n with
    | nil => exact absurd h (wl_ne _ _ _ rfl (Nat.le_refl _))
    | cons x t => rfl
  rw [show (List.map (fun c => strOfNums c) (wl (n + n) n n)) = (wl (n + n) n n).map strOfNums from rfl]
  simp only [hne, Bool.false_eq_true, ↓reduceIte]
  exact hf
theorem good_of {n d : Int} (h : (decide (1 ≤ n) && decide (n ≤ 7)) && (decide (1 ≤ d) && decide (d ≤ 7)) = true) : ∃ n' d' : Nat, n = (n' : Int) ∧ d = (d' : Int) ∧ 1 ≤ n' ∧ n' ≤ 7 ∧ 1 ≤ d' ∧ d' ≤ 7 := by
  simp only [Bool.and_eq_true, decide_eq_true_eq] at h
  exact ⟨n.toNat, d.toNat, by omega, by omega, by omega, by omega, by omega, by omega⟩
theorem ev_l10Good (n d : Int) : spec_l10Good.f n d = some ((decide (1 ≤ n) && decide (n ≤ 7)) && (decide (1 ≤ d) && decide (d ≤ 7))) := by
  unfold spec_l10Good.f
  rw [ev_l1In', Option.bind_some, (ev_limits d).1]
  cases (decide (1 ≤ n) && decide (n ≤ 7)) <;> simp
/-! ### any text: is it a word, and how deep -/
theorem hgt_par : ∀ (l : List Int) (h r : Int), hgt l h = some r → (l.length : Int) + h - r = 2 * (((l.length : Int) + h - r) / 2)
  | [], h, r, e => by
    obtain rfl := Option.some.inj e
    simp
  | c :: t, h, r, e => by
    rw [hgt] at e
    rw [List.length_cons]
    split at e
    · have := hgt_par t _ _ e
      omega
    · split at e
      · split at e
        · cases e
        · have := hgt_par t _ _ e
          omega
      · cases e
def depW : List Int → Int → Int → Int
  | [], _, M => M
  | c :: t, h, M => if c = 73 then depW t (h + 1) (mx M (h + 1)) else depW t (h - 1) (mx M (h - 1))
/-- Is a text a word? -/
def wordB (s : ByteArray) : Bool := decide (hgt (bs s) 0 = some 0) && (decide (2 ≤ s.size) && decide (s.size ≤ 14))
theorem ev_depthAny (s : ByteArray) (hs : s.size ≤ 1048576) : Ev (fun k => impl_depthOf.f k s) (if wordB s = true then (depW (bs s) 0 0, true) else (0, false)) := by
  have go : ∀ (m j : Nat) (h M : Int), j + m = s.size → 0 ≤ h → h ≤ j → Ev (fun k => impl_depthOf.l0 k s h M (s.size : Int) (j : Int)) (if hgt ((bs s).drop j) h = some 0 ∧ 2 ≤ s.size ∧ s.size ≤ 15 then (depW ((bs s).drop j) h M, true) else (0, false)) := by
    intro m
    induction m with
    | zero =>
      intro j h M hj h0 hhj
      rw [bs_end s j (by omega)]
      have c : ¬ (j : Int) < (s.size : Int) := by omega
      by_cases hh : h = 0
      · subst hh
        have e1 := Aside0.mk (show wrap64 ((s.size : Int) / 2) = ((s.size / 2 : Nat) : Int) from by rw [wr (by omega) (by omega)]; omega)
        by_cases hz : 2 ≤ s.size ∧ s.size ≤ 15
        · rw [if_pos ⟨rfl, hz⟩]
          have e2 : impl_isSize.f ((s.size / 2 : Nat) : Int) = some true := by
            rw [ev_isSize, decide_eq_true (by omega), decide_eq_true (by omega)]
            rfl
          exact Ev.step (f := fun _ => some (M, true)) (fun k => by simp only [impl_depthOf.l0, c, e1.out, e2, Option.bind_some, ↓reduceIte]) (Ev.now _)
        · rw [if_neg (fun k => hz k.2)]
          have e2 : impl_isSize.f ((s.size / 2 : Nat) : Int) = some false := by
            rw [ev_isSize]
            congr 1
            rw [Bool.and_eq_false_iff, decide_eq_false_iff_not, decide_eq_false_iff_not]
            omega
          exact Ev.step (f := fun _ => some (0, false)) (fun k => by simp only [impl_depthOf.l0, c, e1.out, e2, Option.bind_some, Bool.false_eq_true, ↓reduceIte]) (Ev.now _)
      · rw [if_neg (fun k => hh (Option.some.inj k.1))]
        exact Ev.step (f := fun _ => some (0, false)) (fun k => by simp only [impl_depthOf.l0, c, hh, ↓reduceIte]) (Ev.now _)
    | succ m ih =>
      intro j h M hj h0 hhj
      have c : (j : Int) < (s.size : Int) := by omega
      have c0 : 0 ≤ (j : Int) := by omega
      have e1 := Aside0.mk (show wrap64 ((j : Int) + 1) = ((j + 1 : Nat) : Int) from wj (by omega))
      have e2 := Aside0.mk (show wrap64 (h + 1) = h + 1 from wr (by omega) (by omega))
      have e3 := Aside0.mk (show wrap64 (h - 1) = h - 1 from wr (by omega) (by omega))
      rw [bs_drop s j (by omega), hgt, depW]
      by_cases h73 : bt s (j : Int) = 73
      · rw [if_pos h73, if_pos h73]
        have b := ih (j + 1) (h + 1) (mx M (h + 1)) (by omega) (by omega) (by omega)
        have n1 : ¬ h + 1 < 0 := by omega
        exact Ev.step (fun k => by simp only [impl_depthOf.l0, c, c0, h73, e2.out, n1, e1.out, ↓reduceIte]) b
      · rw [if_neg h73, if_neg h73]
        by_cases h79 : bt s (j : Int) = 79
        · rw [if_pos h79]
          by_cases n1 : h - 1 < 0
          · rw [if_pos n1, if_neg (fun k => by cases k.1)]
            refine Ev.step (f := fun _ => some (0, false)) (fun k => ?_) (Ev.now _)
            simp only [impl_depthOf.l0, c, c0, e3.out, n1, ↓reduceIte]
            rw [if_neg h73, if_pos h79]
          · rw [if_neg n1]
            have b := ih (j + 1) (h - 1) (mx M (h - 1)) (by omega) (by omega) (by omega)
            refine Ev.step (fun k => ?_) b
            simp only [impl_depthOf.l0, c, c0, e3.out, n1, e1.out, ↓reduceIte]
            rw [if_neg h73, if_pos h79]
        · rw [if_neg h79, if_neg (fun k => by cases k.1)]
          refine Ev.step (f := fun _ => some (0, false)) (fun k => ?_) (Ev.now _)
          simp only [impl_depthOf.l0, c, c0, ↓reduceIte]
          rw [if_neg h73, if_neg h79]
  have := go s.size 0 0 0 (by omega) (by omega) (by omega)
  rw [List.drop_zero] at this
  have e : (hgt (bs s) 0 = some 0 ∧ 2 ≤ s.size ∧ s.size ≤ 15) ↔ wordB s = true := by
    unfold wordB
    simp only [Bool.and_eq_true, decide_eq_true_eq]
    constructor
    · rintro ⟨h1, h2, h3⟩
      have := hgt_par _ _ _ h1
      rw [bs_length] at this
      exact ⟨h1, h2, by omega⟩
    · rintro ⟨h1, h2, h3⟩
      exact ⟨h1, h2, by omega⟩
  by_cases hw : wordB s = true
  · rw [if_pos hw]
    rw [if_pos (e.2 hw)] at this
    exact this
  · rw [if_neg hw]
    rw [if_neg (fun k => hw (e.1 k))] at this
    exact this
theorem ev_isWordAny (s : ByteArray) (hs : s.size ≤ 1048576) : Ev (fun k => impl_isWord.f k s) (wordB s) := by
  unfold impl_isWord.f
  refine Ev.bind (ev_depthAny s hs) ?_
  cases wordB s <;> exact Ev.now _
theorem ev_l2Any (s : ByteArray) (hs : s.size ≤ 1048576) : Ev (fun k => spec_l2Any.f k s) (wordB s) := by
  have go : ∀ (m j : Nat) (h : Int), j + m = s.size → 0 ≤ h → h ≤ j → Ev (fun k => spec_l2Word.l0 k s h (j : Int)) (decide (hgt ((bs s).drop j) h = some 0)) := by
    intro m
    induction m with
    | zero =>
      intro j h hj h0 hhj
      rw [bs_end s j (by omega)]
      have c : ¬ (j : Int) < (s.size : Int) := by omega
      have e : (h == 0) = decide (hgt [] h = some 0) := by
        by_cases hh : h = 0
        · subst hh; rfl
        · rw [beq_eq_false_iff_ne.2 hh]
          exact (decide_eq_false (fun k => hh (Option.some.inj k))).symm
      rw [← e]
      exact Ev.step (f := fun _ => some (h == 0)) (fun k => by simp only [spec_l2Word.l0, c, ↓reduceIte]) (Ev.now _)
    | succ m ih =>
      intro j h hj h0 hhj
      have c : (j : Int) < (s.size : Int) := by omega
      have c0 : 0 ≤ (j : Int) := by omega
      have e1 := Aside0.mk (show wrap64 ((j : Int) + 1) = ((j + 1 : Nat) : Int) from wj (by omega))
      have e2 := Aside0.mk (show wrap64 (h + 1) = h + 1 from wr (by omega) (by omega))
      have e3 := Aside0.mk (show wrap64 (h - 1) = h - 1 from wr (by omega) (by omega))
      rw [bs_drop s j (by omega), hgt]
      by_cases h73 : bt s (j : Int) = 73
      · rw [if_pos h73]
        have b := ih (j + 1) (h + 1) (by omega) (by omega) (by omega)
        exact Ev.step (fun k => by simp only [spec_l2Word.l0, c, c0, h73, e2.out, e1.out, ↓reduceIte]) b
      · rw [if_neg h73]
        by_cases h79 : bt s (j : Int) = 79
        · rw [if_pos h79]
          by_cases n1 : h - 1 < 0
          · rw [if_pos n1]
            have n2 : ¬ h > 0 := by omega
            refine Ev.step (f := fun _ => some false) (fun k => ?_) (Ev.now _)
            simp only [spec_l2Word.l0, c, c0, n2, ↓reduceIte]
            rw [if_neg h73, if_pos h79]
          · rw [if_neg n1]
            have n2 : h > 0 := by omega
            have b := ih (j + 1) (h - 1) (by omega) (by omega) (by omega)
            refine Ev.step (fun k => ?_) b
            simp only [spec_l2Word.l0, c, c0, e3.out, n2, e1.out, ↓reduceIte]
            rw [if_neg h73, if_pos h79]
        · rw [if_neg h79]
          refine Ev.step (f := fun _ => some false) (fun k => ?_) (Ev.now _)
          simp only [spec_l2Word.l0, c, c0, ↓reduceIte]
          rw [if_neg h73, if_neg h79]
  have h0 := go s.size 0 0 (by omega) (by omega) (by omega)
  rw [List.drop_zero] at h0
  unfold spec_l2Any.f
  simp only [ev_l1In', Option.bind_some]
  by_cases hz : 2 ≤ s.size ∧ s.size ≤ 14
  · have z : (decide ((2 : Int) ≤ (s.size : Int)) && decide ((s.size : Int) ≤ 14)) = true := by
      rw [decide_eq_true (by omega), decide_eq_true (by omega)]
      rfl
    have e1 := Aside0.mk (show wrap64 ((s.size : Int) / 2) = ((s.size / 2 : Nat) : Int) from by rw [wr (by omega) (by omega)]; omega)
    have e2 := Aside0.mk (show wrap64 (2 * ((s.size / 2 : Nat) : Int)) = ((2 * (s.size / 2) : Nat) : Int) from by rw [wr (by omega) (by omega)]; omega)
    have ew : wordB s = decide (hgt (bs s) 0 = some 0) := by
      unfold wordB
      rw [decide_eq_true hz.1, decide_eq_true hz.2]
      simp
    simp only [z, e1.out, ↓reduceIte]
    refine Ev.bind (a := decide (hgt (bs s) 0 = some 0)) ?_ (by rw [ew]; exact Ev.now _)
    unfold spec_l2Word.f
    by_cases hp : s.size = 2 * (s.size / 2)
    · have hp' : (s.size : Int) = ((2 * (s.size / 2) : Nat) : Int) := by omega
      simp only [e2.out, if_pos hp']
      exact h0
    · have hp' : ¬ (s.size : Int) = ((2 * (s.size / 2) : Nat) : Int) := by omega
      simp only [e2.out, if_neg hp']
      have : decide (hgt (bs s) 0 = some 0) = false := by
        rw [decide_eq_false_iff_not]
        intro h
        have := hgt_par _ _ _ h
        rw [bs_length] at this
        omega
      rw [this]
      exact Ev.now _
  · have z : (decide ((2 : Int) ≤ (s.size : Int)) && decide ((s.size : Int) ≤ 14)) = false := by
      rw [Bool.and_eq_false_iff, decide_eq_false_iff_not, decide_eq_false_iff_not]
      omega
    have ew : wordB s = false := by
      unfold wordB
      rw [Bool.and_eq_false_iff]
      right
      rw [Bool.and_eq_false_iff, decide_eq_false_iff_not, decide_eq_false_iff_not]
      omega
    simp only [z, ew, Bool.false_eq_true, ↓reduceIte]
    exact Ev.now _
theorem most_mx2 (a b : Int) : spec_l1Most.f a b = some (mx a b) := by
  unfold spec_l1Most.f mx
  split
  · rw [if_neg (by omega)]
  · split
    · rfl
    · congr 1; omega
theorem ev_l2DepthAny (s : ByteArray) (hs : s.size ≤ 1048576) : Ev (fun k => spec_l2Depth.f k s) (depW (bs s) 0 0) := by
  have go : ∀ (m j : Nat) (h M : Int), j + m = s.size → -(j : Int) ≤ h → h ≤ j → Ev (fun k => spec_l2Depth.l0 k s h M (j : Int)) (depW ((bs s).drop j) h M) := by
    intro m
    induction m with
    | zero =>
      intro j h M hj h0 hhj
      rw [bs_end s j (by omega)]
      have c : ¬ (j : Int) < (s.size : Int) := by omega
      exact Ev.step (f := fun _ => some M) (fun k => by simp only [spec_l2Depth.l0, c, ↓reduceIte]) (Ev.now _)
    | succ m ih =>
      intro j h M hj h0 hhj
      have c : (j : Int) < (s.size : Int) := by omega
      have c0 : 0 ≤ (j : Int) := by omega
      have e1 := Aside0.mk (show wrap64 ((j : Int) + 1) = ((j + 1 : Nat) : Int) from wj (by omega))
      have e2 := Aside0.mk (show wrap64 (h + 1) = h + 1 from wr (by omega) (by omega))
      have e3 := Aside0.mk (show wrap64 (h - 1) = h - 1 from wr (by omega) (by omega))
      rw [bs_drop s j (by omega), depW]
      by_cases h73 : bt s (j : Int) = 73
      · rw [if_pos h73]
        have b := ih (j + 1) (h + 1) (mx M (h + 1)) (by omega) (by omega) (by omega)
        exact Ev.step (fun k => by simp only [spec_l2Depth.l0, c, c0, h73, e2.out, most_mx2, Option.bind_some, e1.out, ↓reduceIte]) b
      · rw [if_neg h73]
        have b := ih (j + 1) (h - 1) (mx M (h - 1)) (by omega) (by omega) (by omega)
        refine Ev.step (fun k => ?_) b
        simp only [spec_l2Depth.l0, c, c0, e3.out, most_mx2, Option.bind_some, e1.out, ↓reduceIte]
        rw [if_neg h73]
  have := go s.size 0 0 0 (by omega) (by omega) (by omega)
  rw [List.drop_zero] at this
  exact this
theorem dep_depW : ∀ (c : List Int) (h M : Int), dep c h M = depW c h M
  | [], _, _ => rfl
  | c :: t, h, M => by
    rw [dep, depW, dep_depW t, dep_depW t]
/-- The rank of an ending among those that stay within a limit. -/
def rk (d : Nat) : List Int → Nat → Nat
  | [], _ => 0
  | c :: t, h => if c = 73 then rk d t (h + 1) else (if h + 1 > d then 0 else en d t.length (h + 1)) + rk d t (h - 1)
theorem idx_map (x : Int) (c : List Int) : ∀ (L : List (List Int)), (L.map (fun c => x :: c)).idxOf (x :: c) = L.idxOf c
  | [] => rfl
  | y :: t => by
    rw [List.map_cons, List.idxOf_cons, List.idxOf_cons, idx_map x c t]
    have : (x :: y == x :: c) = (y == c) := by simp
    rw [this]
theorem rk_idx (d : Nat) : ∀ (t i o : Nat) (c : List Int) (M : Int), i + o = t → i ≤ o → o - i ≤ d → c.length = t → hgt c ((o : Int) - (i : Int)) = some 0 → (dep c ((o : Int) - (i : Int)) M ≤ d) → c ∈ wd d t i o ∧ (wd d t i o).idxOf c = rk d c (o - i)
  | 0, i, o, c, M, ht, _, _, hc, _, _ => by
    obtain rfl := List.eq_nil_of_length_eq_zero hc
    exact ⟨by simp [wd], rfl⟩
  | t + 1, i, o, c, M, ht, hio, hod, hc, hg, hd => by
    cases c with
    | nil => cases hc
    | cons x c =>
      have hc' : c.length = t := by simpa using hc
      obtain ⟨A, hA⟩ : ∃ A : List (List Int), A = if 0 < i ∧ o - i < d then (wd d t (i - 1) o).map (fun c => (73 : Int) :: c) else [] := ⟨_, rfl⟩
      obtain ⟨B, hB⟩ : ∃ B : List (List Int), B = if i < o then (wd d t i (o - 1)).map (fun c => (79 : Int) :: c) else [] := ⟨_, rfl⟩
      have hwd : wd d (t + 1) i o = A ++ B := by rw [hA, hB]; rfl
      rw [hwd, List.idxOf_append, List.mem_append]
      rw [hgt] at hg
      rw [dep] at hd
      by_cases h73 : x = 73
      · subst h73
        rw [if_pos rfl] at hg hd
        have hi : 0 < i := by
          rcases Nat.eq_zero_or_pos i with h0 | h0
          · have hb := hgt_par c _ _ hg
            have : ∀ (l : List Int) (h r : Int), hgt l h = some r → h - r ≤ l.length := by
              intro l
              induction l with
              | nil => intro h r e; obtain rfl := Option.some.inj e; simp
              | cons y l ih =>
                intro h r e
                rw [hgt] at e
                rw [List.length_cons]
                split at e
                · have := ih _ _ e; omega
                · split at e
                  · split at e
                    · cases e
                    · have := ih _ _ e; omega
                  · cases e
            have := this c _ _ hg
            omega
          · exact h0
        have h1 := dep_ge c ((o : Int) - (i : Int) + 1) (mx M ((o : Int) - (i : Int) + 1))
        have m1 : (o : Int) - (i : Int) + 1 ≤ mx M ((o : Int) - (i : Int) + 1) := by unfold mx; split <;> omega
        have hh : o - i < d := by omega
        have e : ((o : Int) - ((i - 1 : Nat) : Int)) = (o : Int) - (i : Int) + 1 := by omega
        obtain ⟨a, b⟩ := rk_idx d t (i - 1) o c (mx M ((o : Int) - (i : Int) + 1)) (by omega) (by omega) (by omega) hc' (by rw [e]; exact hg) (by rw [e]; exact hd)
        rw [if_pos ⟨hi, hh⟩] at hA
        have hm : (73 : Int) :: c ∈ A := by rw [hA]; exact List.mem_map.2 ⟨c, a, rfl⟩
        refine ⟨.inl hm, ?_⟩
        rw [if_pos hm, hA, idx_map, b, rk, if_pos rfl, show o - (i - 1) = o - i + 1 by omega]
      · rw [if_neg h73] at hg hd
        by_cases h79 : x = 79
        · subst h79
          rw [if_pos rfl] at hg
          by_cases n1 : (o : Int) - (i : Int) - 1 < 0
          · rw [if_pos n1] at hg
            cases hg
          · rw [if_neg n1] at hg
            have hi : i < o := by omega
            have e : (((o - 1 : Nat) : Int) - (i : Int)) = (o : Int) - (i : Int) - 1 := by omega
            obtain ⟨a, b⟩ := rk_idx d t i (o - 1) c (mx M ((o : Int) - (i : Int) - 1)) (by omega) (by omega) (by omega) hc' (by rw [e]; exact hg) (by rw [e]; exact hd)
            rw [if_pos hi] at hB
            have hm : (79 : Int) :: c ∈ B := by rw [hB]; exact List.mem_map.2 ⟨c, a, rfl⟩
            have hn : ¬ (79 : Int) :: c ∈ A := by
              rw [hA]
              split
              · intro h
                obtain ⟨c', _, e'⟩ := List.mem_map.1 h
                injection e' with e' _
                omega
              · simp
            refine ⟨.inr hm, ?_⟩
            have p1 : A.length = if o - i + 1 > d then 0 else en d t (o - i + 1) := by
              rw [hA]
              by_cases h : 0 < i
              · by_cases hh : o - i < d
                · rw [if_pos ⟨h, hh⟩, if_neg (by omega), List.length_map, wd_len d t (i - 1) o (by omega) (by omega) (by omega), show o - (i - 1) = o - i + 1 by omega]
                · rw [if_neg (fun k => hh k.2), if_pos (by omega)]
                  rfl
              · rw [if_neg (fun k => h k.1), en_high d t (o - i + 1) (by omega)]
                split <;> rfl
            rw [if_neg hn, hB, idx_map, b, rk, if_neg (by decide), hc', p1, show o - 1 - i = o - i - 1 by omega]
            omega
        · rw [if_neg h79] at hg
          cases hg
theorem rk_le (d : Nat) : ∀ (c : List Int) (h : Nat), rk d c h ≤ 2 ^ c.length
  | [], _ => by simp [rk]
  | x :: t, h => by
    have a := rk_le d t (h + 1)
    have b := rk_le d t (h - 1)
    have e := en_le d t.length (h + 1)
    have p : 2 ^ (x :: t).length = 2 ^ t.length + 2 ^ t.length := by rw [List.length_cons, Nat.pow_succ]; omega
    rw [rk, p]
    split
    · omega
    · split <;> omega
theorem ev_rank (s : ByteArray) (d : Nat) (hd1 : 1 ≤ d) (hd7 : d ≤ 7) (hs : s.size ≤ 14) (hg : hgt (bs s) 0 = some 0) : Ev (fun k => spec_RankWithin.l0 k s (d : Int) 0 0 0) ((rk d (bs s) 0 : Int), true) := by
  have go : ∀ (m j h r : Nat), j + m = s.size → hgt ((bs s).drop j) (h : Int) = some 0 → h ≤ j → r + rk d ((bs s).drop j) h ≤ 2 ^ 15 → Ev (fun k => spec_RankWithin.l0 k s (d : Int) (r : Int) (h : Int) (j : Int)) (((r + rk d ((bs s).drop j) h : Nat) : Int), true) := by
    intro m
    induction m with
    | zero =>
      intro j h r hj hg hh hr
      rw [bs_end s j (by omega)]
      have c : ¬ (j : Int) < (s.size : Int) := by omega
      exact Ev.step (f := fun _ => some ((r : Int), true)) (fun k => by simp only [spec_RankWithin.l0, c, ↓reduceIte]) (Ev.now _)
    | succ m ih =>
      intro j h r hj hg hh hr
      have p15 : (2 : Nat) ^ 15 = 32768 := by decide
      have c : (j : Int) < (s.size : Int) := by omega
      have c0 : 0 ≤ (j : Int) := by omega
      have e1 := Aside0.mk (show wrap64 ((j : Int) + 1) = ((j + 1 : Nat) : Int) from wj (by omega))
      have e2 := Aside0.mk (show wrap64 ((h : Int) + 1) = ((h + 1 : Nat) : Int) from wj (by omega))
      have hl : ((bs s).drop (j + 1)).length = m := by rw [List.length_drop, bs_length]; omega
      rw [bs_drop s j (by omega)] at hg hr ⊢
      rw [hgt] at hg
      rw [rk] at hr ⊢
      by_cases h73 : bt s (j : Int) = 73
      · rw [if_pos h73] at hg hr ⊢
        have b := ih (j + 1) (h + 1) r (by omega) (by rw [Int.natCast_add]; exact hg) (by omega) hr
        exact Ev.step (fun k => by simp only [spec_RankWithin.l0, c, c0, h73, e2.out, e1.out, ↓reduceIte]) b
      · rw [if_neg h73] at hg hr ⊢
        by_cases h79 : bt s (j : Int) = 79
        · rw [if_pos h79] at hg
          by_cases n1 : (h : Int) - 1 < 0
          · rw [if_pos n1] at hg
            cases hg
          · rw [if_neg n1] at hg
            rw [hl] at hr ⊢
            have e3 := Aside0.mk (show wrap64 ((h : Int) - 1) = ((h - 1 : Nat) : Int) from by rw [wr (by omega) (by omega)]; omega)
            have e4 := Aside0.mk (show wrap64 (wrap64 ((s.size : Int) - 1) - (j : Int)) = (m : Int) from by rw [wr (i := (s.size : Int) - 1) (by omega) (by omega), wr (by omega) (by omega)]; omega)
            have he := ev_ends (h + 1) m d hd1 (by omega) (by omega)
            have e6 : (if h + 1 > d then (0 : Int) else (en d m (h + 1) : Int)) = (((if h + 1 > d then 0 else en d m (h + 1)) : Nat) : Int) := by split <;> rfl
            rw [e6] at he
            generalize (if h + 1 > d then 0 else en d m (h + 1)) = q at he hr ⊢
            have e5 := Aside0.mk (show wrap64 ((r : Int) + (q : Int)) = ((r + q : Nat) : Int) from by rw [wr (by omega) (by omega)]; omega)
            have b := ih (j + 1) (h - 1) (r + q) (by omega) (by rw [show ((h - 1 : Nat) : Int) = (h : Int) - 1 by omega]; exact hg) (by omega) (by omega)
            rw [Nat.add_assoc] at b
            refine Ev.step (f := fun k => (spec_l10Ends.f k ((h + 1 : Nat) : Int) (m : Int) (d : Int)).bind fun t264 => (spec_RankWithin.l0 k s (d : Int) (wrap64 ((r : Int) + t264)) ((h - 1 : Nat) : Int) ((j + 1 : Nat) : Int))) (fun k => ?_) ?_
            · simp only [spec_RankWithin.l0, c, c0, e2.out, e3.out, e4.out, e1.out, ↓reduceIte]
              rw [if_neg h73]
            · refine Ev.bind he ?_
              simp only [e5.out]
              exact b
        · rw [if_neg h79] at hg
          cases hg
  have h2 := rk_le d (bs s) 0
  rw [bs_length] at h2
  have h3 : 2 ^ s.size ≤ 2 ^ 15 := Nat.pow_le_pow_right (by omega) (by omega)
  have := go s.size 0 0 0 (by omega) (by rw [List.drop_zero]; exact hg) (by omega) (by rw [List.drop_zero]; omega)
  rw [List.drop_zero, Nat.zero_add] at this
  exact this
theorem ev_indexS (M : List (List Int)) (s : ByteArray) (hM : M.length ≤ 1000000) (hb : ∀ c ∈ M, ∀ x ∈ c, x = 73 ∨ x = 79) : Ev (fun k => slices_Index_string_string.f k (M.map strOfNums) s) (if bs s ∈ M then ((M.idxOf (bs s) : Nat) : Int) else -1) := by
  have go : ∀ (m j : Nat), j + m = M.length → Ev (fun k => slices_Index_string_string.l0 k (M.map strOfNums) s ((M.map strOfNums).length : Int) (j : Int)) (if bs s ∈ M.drop j then (((M.drop j).idxOf (bs s) + j : Nat) : Int) else -1) := by
    intro m
    induction m with
    | zero =>
      intro j hj
      rw [List.drop_of_length_le (by omega), if_neg (by simp)]
      have c : ¬ (j : Int) < ((M.map strOfNums).length : Int) := by rw [List.length_map]; omega
      exact Ev.step (f := fun _ => some (-1)) (fun k => by simp only [slices_Index_string_string.l0, c, ↓reduceIte]) (Ev.now _)
    | succ m ih =>
      intro j hj
      have c : (j : Int) < ((M.map strOfNums).length : Int) := by rw [List.length_map]; omega
      have c0 : 0 ≤ (j : Int) := by omega
      have e1 := Aside0.mk (show wrap64 ((j : Int) + 1) = ((j + 1 : Nat) : Int) from wj (by omega))
      have hjl : j < M.length := by omega
      have er : rdOf ByteArray.empty (M.map strOfNums) (j : Int) = strOfNums M[j] := by
        unfold rdOf
        rw [Int.toNat_natCast]
        simp [hjl]
      rw [List.drop_eq_getElem_cons hjl, List.idxOf_cons]
      have hbj := bs_son M[j] (hb _ (List.getElem_mem hjl))
      by_cases he : bs s = M[j]
      · have et : s.toList = (strOfNums M[j]).toList := by
          rw [← he]
          have : strOfNums (bs s) = s := bs_inj (by rw [he, hbj])
          rw [this]
        rw [if_pos (List.mem_cons.2 (.inl he)), beq_iff_eq.2 he.symm, cond_true, Nat.zero_add]
        exact Ev.step (f := fun _ => some (j : Int)) (fun k => by simp only [slices_Index_string_string.l0, c, c0, er, et, ↓reduceIte]) (Ev.now _)
      · have et : ¬ s.toList = (strOfNums M[j]).toList := by
          intro h
          rw [ByteArray.toList_eq, ByteArray.toList_eq] at h
          apply he
          rw [← hbj]
          unfold bs
          rw [h]
        have b := ih (j + 1) (by omega)
        have hne : (M[j] == bs s) = false := beq_eq_false_iff_ne.2 (fun e => he e.symm)
        rw [hne, cond_false]
        have hm : bs s ∈ M[j] :: M.drop (j + 1) ↔ bs s ∈ M.drop (j + 1) := by
          rw [List.mem_cons]
          exact ⟨fun h => h.resolve_left he, .inr⟩
        have b2 : (if bs s ∈ M[j] :: M.drop (j + 1) then (((M.drop (j + 1)).idxOf (bs s) + 1 + j : Nat) : Int) else -1) = (if bs s ∈ M.drop (j + 1) then (((M.drop (j + 1)).idxOf (bs s) + (j + 1) : Nat) : Int) else -1) := by
          by_cases hx : bs s ∈ M.drop (j + 1)
          · rw [if_pos hx, if_pos (hm.2 hx)]
            omega
          · rw [if_neg hx, if_neg (fun k => hx (hm.1 k))]
        rw [b2]
        exact Ev.step (fun k => by simp only [slices_Index_string_string.l0, c, c0, er, et, e1.out, ↓reduceIte]) b
  have := go M.length 0 (by omega)
  rw [List.drop_zero] at this
  exact this
theorem both_Rank (s : ByteArray) (d : Int) (hs : s.size ≤ 1048576) : ∃ r, Ev (fun k => spec_RankWithin.f k s d) r ∧ Ev (fun k => impl_RankWithin.f k s d) r := by
  have no1 : Ev (fun K => spec_RankWithin.j0 K s d true) (0, false) := Ev.step (f := fun _ => some (0, false)) (fun K => by simp only [spec_RankWithin.j0, ↓reduceIte]) (Ev.now _)
  have no2 : Ev (fun K => impl_RankWithin.j0 K s d true) (0, false) := Ev.step (f := fun _ => some (0, false)) (fun K => by simp only [impl_RankWithin.j0, ↓reduceIte]) (Ev.now _)
  unfold spec_RankWithin.f impl_RankWithin.f
  cases hw : wordB s with
  | false =>
    refine ⟨(0, false), Ev.bind (ev_l2Any s hs) ?_, Ev.bind (ev_isWordAny s hs) ?_⟩
    · rw [hw]; exact no1
    · rw [hw]; exact no2
  | true =>
    cases hd : (decide (1 ≤ d) && decide (d ≤ 7)) with
    | false =>
      refine ⟨(0, false), Ev.bind (ev_l2Any s hs) ?_, Ev.bind (ev_isWordAny s hs) ?_⟩
      · rw [hw]; simp only [(ev_limits d).1, hd, Option.bind_some, Bool.false_eq_true, ↓reduceIte]; exact no1
      · rw [hw]; simp only [(ev_limits d).2, hd, Option.bind_some, Bool.not_false, ↓reduceIte]; exact no2
    | true =>
      have hw' := hw
      unfold wordB at hw'
      simp only [Bool.and_eq_true, decide_eq_true_eq] at hw' hd
      obtain ⟨hg, h2, h14⟩ := hw'
      obtain ⟨d, rfl⟩ : ∃ d' : Nat, d = (d' : Int) := ⟨d.toNat, by omega⟩
      have hd1 : 1 ≤ d := by omega
      have hd7 : d ≤ 7 := by omega
      have hpar := hgt_par _ _ _ hg
      rw [bs_length] at hpar
      obtain ⟨n, hn⟩ : ∃ n : Nat, s.size = n + n := ⟨s.size / 2, by omega⟩
      have hd' : (decide (1 ≤ (d : Int)) && decide ((d : Int) ≤ 7)) = true := by
        rw [decide_eq_true (by omega), decide_eq_true (by omega)]; rfl
      have hdep : dep (bs s) 0 0 = depW (bs s) 0 0 := dep_depW _ _ _
      have en2 := Aside0.mk (show wrap64 ((s.size : Int) / 2) = (n : Int) from by rw [wr (by omega) (by omega)]; omega)
      have hbyte : ∀ c ∈ wd d (n + n) n n, ∀ x ∈ c, x = 73 ∨ x = 79 := by
        intro c hc
        have := wd_filter d (n + n) n n 0 rfl (Nat.le_refl _) (by omega) (by omega)
        rw [← this] at hc
        exact (wl_word (n + n) n n rfl (Nat.le_refl _) c (List.mem_filter.1 hc).1).2.1
      have hlen : (wd d (n + n) n n).length ≤ 1000000 := by
        rw [wd_len d (n + n) n n rfl (Nat.le_refl _) (by omega)]
        have h2 := en_le d (n + n) (n - n)
        have h3 : 2 ^ (n + n) ≤ 2 ^ 14 := Nat.pow_le_pow_right (by omega) (by omega)
        have h4 : (2 : Nat) ^ 14 = 16384 := by decide
        omega
      have hidx := ev_indexS (wd d (n + n) n n) s hlen hbyte
      have himpl : ∀ x : Int, Ev (fun k => slices_Index_string_string.f k ((wd d (n + n) n n).map strOfNums) s) x → Ev (fun K => impl_RankWithin.j0 K s (d : Int) false) (mx x 0, decide (x ≥ 0)) := by
        intro x hx
        refine Ev.step (f := fun k => (impl_within.f k (n : Int) (d : Int)).bind fun t283 => ((slices_Index_string_string.f k t283 s).bind fun t286 => (some (mx t286 0, decide (t286 ≥ 0))))) (fun K => by simp only [impl_RankWithin.j0, en2.out, Bool.false_eq_true, ↓reduceIte]) ?_
        exact Ev.bind (ev_within n d (by omega) (by omega) hd1) (Ev.bind hx (Ev.now _))
      by_cases hdp : depW (bs s) 0 0 ≤ (d : Int)
      · have hr := rk_idx d (n + n) n n (bs s) 0 rfl (Nat.le_refl _) (by omega) (by rw [bs_length]; omega) (by rw [Int.sub_self]; exact hg) (by rw [Int.sub_self, hdep]; exact hdp)
        rw [Nat.sub_self] at hr
        rw [if_pos hr.1, hr.2] at hidx
        refine ⟨((rk d (bs s) 0 : Int), true), Ev.bind (ev_l2Any s hs) ?_, Ev.bind (ev_isWordAny s hs) ?_⟩
        · rw [hw]
          simp only [(ev_limits (d : Int)).1, hd', Option.bind_some, ↓reduceIte]
          refine Ev.bind (ev_l2DepthAny s hs) ?_
          have n1 : decide (depW (bs s) 0 0 > (d : Int)) = false := decide_eq_false (by omega)
          simp only [n1]
          refine Ev.step (f := fun k => spec_RankWithin.l0 k s (d : Int) 0 0 0) (fun K => by simp only [spec_RankWithin.j0, Bool.false_eq_true, ↓reduceIte]) ?_
          exact ev_rank s d hd1 hd7 h14 hg
        · rw [hw]
          simp only [(ev_limits (d : Int)).2, hd', Option.bind_some, Bool.not_true, ↓reduceIte]
          have := himpl _ hidx
          have e1 : mx (rk d (bs s) 0 : Int) 0 = (rk d (bs s) 0 : Int) := by unfold mx; split <;> omega
          have e2 : decide ((rk d (bs s) 0 : Int) ≥ 0) = true := decide_eq_true (by omega)
          rw [e1, e2] at this
          exact this
      · have hn : ¬ bs s ∈ wd d (n + n) n n := by
          intro h
          have hf := wd_filter d (n + n) n n 0 rfl (Nat.le_refl _) (by omega) (by omega)
          rw [← hf] at h
          have := (List.mem_filter.1 h).2
          rw [Int.sub_self, hdep, decide_eq_true_eq] at this
          exact hdp this
        rw [if_neg hn] at hidx
        refine ⟨(0, false), Ev.bind (ev_l2Any s hs) ?_, Ev.bind (ev_isWordAny s hs) ?_⟩
        · rw [hw]
          simp only [(ev_limits (d : Int)).1, hd', Option.bind_some, ↓reduceIte]
          refine Ev.bind (ev_l2DepthAny s hs) ?_
          have n1 : decide (depW (bs s) 0 0 > (d : Int)) = true := decide_eq_true (by omega)
          simp only [n1]
          exact no1
        · rw [hw]
          simp only [(ev_limits (d : Int)).2, hd', Option.bind_some, Bool.not_true, ↓reduceIte]
          exact himpl _ hidx
theorem FnExactRankWithin : laws_FnExactRankWithin.Pure := by
  intro s d _ _
  unfold laws_FnExactRankWithin.f
  by_cases hl : (s.size : Int) > 1048576
  · exact ⟨0, by rw [if_pos hl]⟩
  · obtain ⟨r, ⟨K1, h1⟩, ⟨K2, h2⟩⟩ := both_Rank s d (by omega)
    dsimp only at h1 h2
    refine ⟨K1 + K2, ?_⟩
    rw [if_neg hl, h1 _ (by omega), Option.bind_some, h2 _ (by omega), Option.bind_some, if_pos rfl, bne_self_eq_false]
    rfl

end Go.Proofs.Ytppfobgmbjjdhaa.Pure
