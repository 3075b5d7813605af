/- NextSigns: the program and the reference tell the same signs of every number and every text (of at most 1048576 bytes: of longer ones the law says nothing). -/
import Derived.Test.YtdjbimallgbioaaXa2
import Derived.Test.YtdjbimallgbioaaPk
set_option linter.unusedVariables false
set_option linter.unusedSimpArgs false
namespace Go.Proofs.Ytdjbimallgbioaa.Pure
open Go.RowKit Go.Proofs.Ytdjbimallgbioaa.Xa Go.Proofs.YtdjbimallgbioaaW.PrintWords Go.Proofs.YtdjbimallgbioaaW.PrintLast Go.Proofs.Ytdjbimallgbioaa.Pk

/-! ### what the reference and the program tell of beginnings -/
def begR : Option (Int × Int) → Int
  | some (p, q) => p - q
  | none => -1
theorem ev_l1In (a b c : Int) : spec_l1In.f a b c = some (decide (b ≤ a) && decide (a ≤ c)) := by
  unfold spec_l1In.f
  by_cases h : b ≤ a
  · rw [if_pos h, decide_eq_true h, Bool.true_and]
  · rw [if_neg h, decide_eq_false h, Bool.false_and]
theorem ev_l11In_l0 (n : Int) (s : ByteArray) (hn0 : 1 ≤ n) (hn6 : n ≤ 6) (hs : s.size ≤ 1048576) (d : Nat) : ∀ (j : Nat) (p q : Int), j + d = s.size → 0 ≤ q → q ≤ p → p ≤ n →
    Ev (fun k => spec_l11In.l0 k n s (p - q) p (j : Int)) (begR (beg n ((bs s).drop j) p q)) := by
  induction d with
  | zero =>
    intro j p q hj h0 h1 h2
    rw [bs_end s j (by omega)]
    have c : ¬ (j : Int) < (s.size : Int) := by omega
    exact Ev.step (fun k => by simp only [spec_l11In.l0, c, ↓reduceIte] <;> rfl) (Ev.now _)
  | succ d ih =>
    intro j p q hj h0 h1 h2
    rw [bs_drop s j (by omega)]
    have c : (j : Int) < (s.size : Int) := by omega
    have c0 : 0 ≤ (j : Int) := by omega
    have e1 : wrap64 ((j : Int) + 1) = ((j + 1 : Nat) : Int) := wj (by omega)
    simp only [beg]
    by_cases hI : bt s (j : Int) = 73
    · simp only [hI, ↓reduceIte]
      by_cases hp : p < n
      · simp only [hp, ↓reduceIte]
        have ih' := ih (j + 1) (p + 1) q (by omega) h0 (by omega) (by omega)
        rw [show p + 1 - q = p - q + 1 by omega] at ih'
        refine Ev.step (fun k => by simp only [spec_l11In.l0, c, c0, hI, hp, decide_true, ↓reduceIte] <;> rfl) (Ev.step (f := fun k => spec_l11In.l0 k n s (p - q + 1) (p + 1) ((j + 1 : Nat) : Int)) (fun k => ?_) ih')
        simp only [spec_l11In.j1, ↓reduceIte]
        rw [wr (i := p - q + 1) (by omega) (by omega), wr (i := p + 1) (by omega) (by omega), e1]
      · simp only [hp, ↓reduceIte]
        refine Ev.step (fun k => by simp only [spec_l11In.l0, c, c0, hI, hp, decide_false, ↓reduceIte] <;> rfl) (Ev.step (f := fun _ => some (-1)) (fun k => ?_) (Ev.now _))
        simp only [spec_l11In.j1, c, c0, hI, ↓reduceIte]
        rfl
    · simp only [hI, ↓reduceIte]
      by_cases hO : bt s (j : Int) = 79
      · simp only [hO, ↓reduceIte]
        by_cases hq : q < p
        · simp only [hq, ↓reduceIte]
          have ih' := ih (j + 1) p (q + 1) (by omega) (by omega) (by omega) (by omega)
          rw [show p - (q + 1) = p - q - 1 by omega] at ih'
          have g : p - q > 0 := by omega
          refine Ev.step (fun k => by simp only [spec_l11In.l0, c, c0, hI, ↓reduceIte] <;> rfl) (Ev.step (f := fun k => spec_l11In.l0 k n s (p - q - 1) p ((j + 1 : Nat) : Int)) (fun k => ?_) ih')
          simp only [spec_l11In.j1, c, c0, hO, g, Bool.false_eq_true, ↓reduceIte]
          rw [wr (i := p - q - 1) (by omega) (by omega), e1]
        · simp only [hq, ↓reduceIte]
          have g : ¬ p - q > 0 := by omega
          refine Ev.step (fun k => by simp only [spec_l11In.l0, c, c0, hI, ↓reduceIte] <;> rfl) (Ev.step (f := fun _ => some (-1)) (fun k => ?_) (Ev.now _))
          simp only [spec_l11In.j1, c, c0, hO, g, Bool.false_eq_true, ↓reduceIte]
      · simp only [hO, ↓reduceIte]
        refine Ev.step (fun k => by simp only [spec_l11In.l0, c, c0, hI, ↓reduceIte] <;> rfl) (Ev.step (f := fun _ => some (-1)) (fun k => ?_) (Ev.now _))
        simp only [spec_l11In.j1, c, c0, hO, Bool.false_eq_true, ↓reduceIte]
theorem ev_isBeginning_l0 (n : Int) (s : ByteArray) (hn0 : 1 ≤ n) (hn6 : n ≤ 6) (hs : s.size ≤ 1048576) (d : Nat) : ∀ (j : Nat) (p q : Int), j + d = s.size → 0 ≤ q → q ≤ p → p ≤ n →
    Ev (fun k => impl_isBeginning.l0 k n s p q (s.size : Int) (j : Int)) (beg n ((bs s).drop j) p q).isSome := by
  induction d with
  | zero =>
    intro j p q hj h0 h1 h2
    rw [bs_end s j (by omega)]
    have c : ¬ (j : Int) < (s.size : Int) := by omega
    exact Ev.step (fun k => by simp only [impl_isBeginning.l0, c, ↓reduceIte] <;> rfl) (Ev.now _)
  | succ d ih =>
    intro j p q hj h0 h1 h2
    rw [bs_drop s j (by omega)]
    have c : (j : Int) < (s.size : Int) := by omega
    have c0 : 0 ≤ (j : Int) := by omega
    have e1 : wrap64 ((j : Int) + 1) = ((j + 1 : Nat) : Int) := wj (by omega)
    have e2 : wrap64 (p + 1) = p + 1 := wr (by omega) (by omega)
    have e3 : wrap64 (q + 1) = q + 1 := wr (by omega) (by omega)
    simp only [beg]
    by_cases hI : bt s (j : Int) = 73
    · simp only [hI, ↓reduceIte]
      have g1 : ¬ q > p + 1 := by omega
      by_cases hp : p < n
      · have g2 : ¬ p + 1 > n := by omega
        simp only [hp, ↓reduceIte]
        exact Ev.step (fun k => by simp only [impl_isBeginning.l0, c, c0, hI, e1, e2, g1, g2, ↓reduceIte]) (ih (j + 1) (p + 1) q (by omega) h0 (by omega) (by omega))
      · have g2 : p + 1 > n := by omega
        simp only [hp, ↓reduceIte]
        exact Ev.step (fun k => by simp only [impl_isBeginning.l0, c, c0, hI, e2, g1, g2, ↓reduceIte] <;> rfl) (Ev.now _)
    · simp only [hI, ↓reduceIte]
      by_cases hO : bt s (j : Int) = 79
      · simp only [hO, ↓reduceIte]
        have g2 : ¬ p > n := by omega
        by_cases hq : q < p
        · have g1 : ¬ q + 1 > p := by omega
          simp only [hq, ↓reduceIte]
          exact Ev.step (fun k => by simp only [impl_isBeginning.l0, c, c0, hI, hO, e1, e3, g1, g2, ↓reduceIte] <;> rfl) (ih (j + 1) p (q + 1) (by omega) (by omega) (by omega) (by omega))
        · have g1 : q + 1 > p := by omega
          simp only [hq, ↓reduceIte]
          exact Ev.step (fun k => by simp only [impl_isBeginning.l0, c, c0, hI, hO, e3, g1, g2, ↓reduceIte] <;> rfl) (Ev.now _)
      · simp only [hO, ↓reduceIte]
        exact Ev.step (fun k => by simp only [impl_isBeginning.l0, c, c0, hI, hO, ↓reduceIte] <;> rfl) (Ev.now _)
/-- Is a text a beginning for n numbers? -/
def isBeg (n : Int) (s : ByteArray) : Bool := decide (1 ≤ n) && decide (n ≤ 6) && decide ((s.size : Int) ≤ 2 * n) && (beg n (bs s) 0 0).isSome
theorem begR_some (n : Int) (l : List Int) (h : 0 ≤ n) : decide (begR (beg n l 0 0) ≥ 0) = (beg n l 0 0).isSome := by
  cases e : beg n l 0 0 with
  | none => rfl
  | some r =>
    obtain ⟨p, q⟩ := r
    have := beg_bounds n l 0 0 p q (by omega) h e
    show decide (p - q ≥ 0) = true
    exact decide_eq_true (by omega)
theorem ev_l11In (n : Int) (s : ByteArray) (hn0 : 1 ≤ n) (hn6 : n ≤ 6) (hs : s.size ≤ 1048576) : Ev (fun k => spec_l11In.f k n s) (if (s.size : Int) ≤ 2 * n then begR (beg n (bs s) 0 0) else -1) := by
  have e : wrap64 (2 * n) = 2 * n := wr (by omega) (by omega)
  by_cases h : (s.size : Int) ≤ 2 * n
  · have h' : ¬ (s.size : Int) > 2 * n := by omega
    have := ev_l11In_l0 n s hn0 hn6 hs s.size 0 0 0 (by omega) (by omega) (by omega) (by omega)
    simp only [List.drop_zero] at this
    simp only [spec_l11In.f, e, h, h', ↓reduceIte]
    exact this
  · have h' : (s.size : Int) > 2 * n := by omega
    simp only [spec_l11In.f, e, h, h', ↓reduceIte]
    exact Ev.now _
theorem ev_specIsBeginning (n : Int) (s : ByteArray) (hs : s.size ≤ 1048576) : Ev (fun k => spec_IsBeginning.f k n s) (isBeg n s) := by
  unfold spec_IsBeginning.f isBeg
  simp only [ev_l1In, Option.bind_some]
  by_cases h1 : 1 ≤ n
  · by_cases h6 : n ≤ 6
    · simp only [h1, h6, decide_true, Bool.and_true, ↓reduceIte, Bool.true_and]
      refine Ev.bind (ev_l11In n s h1 h6 hs) ?_
      by_cases hl : (s.size : Int) ≤ 2 * n
      · simp only [hl, ↓reduceIte, decide_true, Bool.true_and]
        rw [begR_some n _ (by omega)]
        exact Ev.now _
      · simp only [hl, ↓reduceIte, decide_false, Bool.false_and]
        exact Ev.now _
    · simp only [h6, decide_false, Bool.and_false, Bool.false_and, Bool.false_eq_true, ↓reduceIte]
      exact Ev.now _
  · simp only [h1, decide_false, Bool.false_and, Bool.false_eq_true, ↓reduceIte]
    exact Ev.now _
theorem ev_isBeginning (n : Int) (s : ByteArray) (hs : s.size ≤ 1048576) : Ev (fun k => impl_isBeginning.f k n s) (isBeg n s) := by
  unfold isBeg
  by_cases h1 : 1 ≤ n
  · by_cases h6 : n ≤ 6
    · have e : wrap64 (2 * n) = 2 * n := wr (by omega) (by omega)
      have g1 : ¬ n < 1 := by omega
      have g6 : ¬ n > 6 := by omega
      simp only [impl_isBeginning.f, g1, g6, e, h1, h6, decide_true, Bool.true_and, ↓reduceIte]
      by_cases hl : (s.size : Int) ≤ 2 * n
      · have hl' : ¬ (s.size : Int) > 2 * n := by omega
        simp only [hl, hl', decide_true, decide_false, Bool.true_and]
        have := ev_isBeginning_l0 n s h1 h6 hs s.size 0 0 0 (by omega) (by omega) (by omega) (by omega)
        simp only [List.drop_zero] at this
        exact Ev.step (fun k => by simp only [impl_isBeginning.j0, Bool.false_eq_true, ↓reduceIte] <;> rfl) this
      · have hl' : (s.size : Int) > 2 * n := by omega
        simp only [hl, hl', decide_true, decide_false, Bool.false_and]
        exact Ev.step (fun k => by simp only [impl_isBeginning.j0, ↓reduceIte] <;> rfl) (Ev.now _)
    · have g1 : ¬ n < 1 := by omega
      have g6 : n > 6 := by omega
      simp only [impl_isBeginning.f, g1, g6, h6, decide_false, Bool.and_false, Bool.false_and, ↓reduceIte]
      exact Ev.step (fun k => by simp only [impl_isBeginning.j0, ↓reduceIte] <;> rfl) (Ev.now _)
  · have g1 : n < 1 := by omega
    simp only [impl_isBeginning.f, g1, h1, decide_false, Bool.false_and, ↓reduceIte]
    exact Ev.step (fun k => by simp only [impl_isBeginning.j0, ↓reduceIte] <;> rfl) (Ev.now _)
theorem isBeg_snoc (n : Int) (s t : ByteArray) (c : Int) (ht : bs t = [c]) (p q : Int) (h : isBeg n s = true) (hb : beg n (bs s) 0 0 = some (p, q)) : isBeg n (s ++ t) = (if c = 73 then decide (p < n) else if c = 79 then decide (q < p) else false) := by
  unfold isBeg at h ⊢
  simp only [Bool.and_eq_true, decide_eq_true_eq] at h
  obtain ⟨⟨⟨h1, h6⟩, hl⟩, _⟩ := h
  have b := beg_bounds n (bs s) 0 0 p q (by omega) (by omega) hb
  rw [bs_length] at b
  have ht1 : t.size = 1 := by rw [← bs_length, ht]; rfl
  rw [bs_append, beg_append, hb, ht, size_append, ht1]
  simp only [Option.bind_some, beg]
  by_cases h73 : c = 73
  · simp only [h73, ↓reduceIte]
    by_cases hp : p < n
    · simp [hp, h1, h6]
      omega
    · simp [hp]
  · simp only [h73, ↓reduceIte]
    by_cases h79 : c = 79
    · simp only [h79, ↓reduceIte]
      by_cases hp : q < p
      · simp [hp, h1, h6]
        omega
      · simp [hp]
    · simp [h79]
/-- The signs with which a beginning with p pushes and q pops goes on. -/
def signs (n p q : Int) : ByteArray := (if p < n then (⟨#[73]⟩ : ByteArray) else ⟨#[]⟩) ++ (if q < p then (⟨#[79]⟩ : ByteArray) else ⟨#[]⟩)
theorem ev_nextSigns (n : Int) (s : ByteArray) (hs : s.size ≤ 1048576) (p q : Int) (h : isBeg n s = true) (hb : beg n (bs s) 0 0 = some (p, q)) : Ev (fun k => impl_nextSigns.f k n s) (signs n p q) := by
  have hI := isBeg_snoc n s ⟨#[73]⟩ 73 rfl p q h hb
  have hO := isBeg_snoc n s ⟨#[79]⟩ 79 rfl p q h hb
  have hl : (s.size : Int) ≤ 12 := by
    unfold isBeg at h
    simp only [Bool.and_eq_true, decide_eq_true_eq] at h
    omega
  simp only [↓reduceIte] at hI
  rw [if_neg (by decide), if_pos rfl] at hO
  simp only [impl_nextSigns.f, Option.bind_some]
  have z0 : rdOf ByteArray.empty ([(⟨#[73]⟩ : ByteArray), (⟨#[79]⟩ : ByteArray)] : List ByteArray) 0 = ⟨#[73]⟩ := rfl
  have z1 : rdOf ByteArray.empty ([(⟨#[73]⟩ : ByteArray), (⟨#[79]⟩ : ByteArray)] : List ByteArray) 1 = ⟨#[79]⟩ := rfl
  have s73 : (⟨#[73]⟩ : ByteArray).size = 1 := rfl
  have s79 : (⟨#[79]⟩ : ByteArray).size = 1 := rfl
  have k1 : s.size + 1 ≤ 9223372036854775807 := by omega
  have nn : (([(⟨#[73]⟩ : ByteArray), (⟨#[79]⟩ : ByteArray)] : List ByteArray).length : Int) = 2 := rfl
  have w1 : wrap64 (0 + 1) = 1 := by unfold wrap64; omega
  have w2 : wrap64 (1 + 1) = 2 := by unfold wrap64; omega
  have e0 : (⟨#[]⟩ : ByteArray).size = 0 := rfl
  have last : ∀ out : ByteArray, Ev (fun k => impl_nextSigns.l0 k n s out [(⟨#[73]⟩ : ByteArray), (⟨#[79]⟩ : ByteArray)] 2 2) out := fun out => Ev.step (fun k => by simp only [impl_nextSigns.l0]; rfl) (Ev.now _)
  have second : ∀ out : ByteArray, out.size ≤ 1 → Ev (fun k => impl_nextSigns.l0 k n s out [(⟨#[73]⟩ : ByteArray), (⟨#[79]⟩ : ByteArray)] 2 1) (out ++ (if q < p then (⟨#[79]⟩ : ByteArray) else ⟨#[]⟩)) := by
    intro out ho
    have k2 : out.size + 1 ≤ 9223372036854775807 := by omega
    refine Ev.step (f := fun k => (impl_isBeginning.f k n (s ++ ⟨#[79]⟩)).bind fun t => if t = true then impl_nextSigns.l0 k n s (out ++ ⟨#[79]⟩) [(⟨#[73]⟩ : ByteArray), (⟨#[79]⟩ : ByteArray)] 2 2 else impl_nextSigns.l0 k n s out [(⟨#[73]⟩ : ByteArray), (⟨#[79]⟩ : ByteArray)] 2 2) (fun k => ?_) ?_
    · simp only [impl_nextSigns.l0, nn, z1, s79, k1, k2, w2, ↓reduceIte, show ((1 : Int) < 2) = True by decide, show ((0 : Int) ≤ 1) = True by decide]
    · refine Ev.bind (ev_isBeginning n (s ++ ⟨#[79]⟩) (by rw [size_append]; omega)) ?_
      rw [hO]
      by_cases hq : q < p
      · simp only [hq, decide_true, ↓reduceIte]
        exact last _
      · simp only [hq, decide_false, Bool.false_eq_true, ↓reduceIte]
        have : out ++ (⟨#[]⟩ : ByteArray) = out := bs_inj (by rw [bs_append]; simp [bs])
        rw [this]
        exact last _
  refine Ev.step (f := fun k => (impl_isBeginning.f k n (s ++ ⟨#[73]⟩)).bind fun t => if t = true then impl_nextSigns.l0 k n s (⟨#[]⟩ ++ ⟨#[73]⟩) [(⟨#[73]⟩ : ByteArray), (⟨#[79]⟩ : ByteArray)] 2 1 else impl_nextSigns.l0 k n s ⟨#[]⟩ [(⟨#[73]⟩ : ByteArray), (⟨#[79]⟩ : ByteArray)] 2 1) (fun k => ?_) ?_
  · simp only [impl_nextSigns.l0, nn, z0, s73, e0, k1, w1, ↓reduceIte, show ((0 : Int) < 2) = True by decide, show ((0 : Int) ≤ 0) = True by decide, show (0 + 1 ≤ 9223372036854775807) = True by decide]
  · refine Ev.bind (ev_isBeginning n (s ++ ⟨#[73]⟩) (by rw [size_append]; omega)) ?_
    rw [hI]
    unfold signs
    by_cases hp : p < n
    · simp only [hp, decide_true, ↓reduceIte]
      exact second _ (by decide)
    · simp only [hp, decide_false, Bool.false_eq_true, ↓reduceIte]
      exact second _ (by decide)
theorem ev_l11Signs (n : Int) (s : ByteArray) (hs : s.size ≤ 1048576) (p q : Int) (h : isBeg n s = true) (hb : beg n (bs s) 0 0 = some (p, q)) : Ev (fun k => spec_l11Signs.f k n s) (signs n p q) := by
  unfold isBeg at h
  simp only [Bool.and_eq_true, decide_eq_true_eq] at h
  obtain ⟨⟨⟨h1, h6⟩, hl⟩, _⟩ := h
  have b := beg_bounds n (bs s) 0 0 p q (by omega) (by omega) hb
  rw [bs_length] at b
  have r := ev_l11In n s h1 h6 hs
  rw [if_pos hl, hb] at r
  simp only [begR] at r
  unfold spec_l11Signs.f signs
  refine Ev.bind r ?_
  have e : wrap64 (Int.tdiv (wrap64 ((s.size : Int) + (p - q))) 2) = p := by
    rw [wr (i := (s.size : Int) + (p - q)) (by omega) (by omega), show (s.size : Int) + (p - q) = 2 * p by omega, Int.mul_tdiv_cancel_left _ (by decide)]
    exact wr (by omega) (by omega)
  simp only [e]
  have g : (p - q > 0) = (q < p) := by simp only [gt_iff_lt, eq_iff_iff]; omega
  simp only [g]
  by_cases hp : p < n <;> by_cases hq : q < p <;> simp only [hp, hq, ↓reduceIte, show (1 + 1 ≤ 9223372036854775807) = True by decide, show (0 + 1 ≤ 9223372036854775807) = True by decide]
  all_goals first | exact Ev.now _ | exact (bs_inj (by rw [bs_append]; rfl) : (⟨#[73]⟩ : ByteArray) = ⟨#[73]⟩ ++ ⟨#[]⟩) ▸ Ev.now _
theorem FnExactNextSigns : laws_FnExactNextSigns.Pure := by
  intro n s _ hs
  by_cases hl : (s.size : Int) > 1048576
  · exact ⟨0, by simp only [laws_FnExactNextSigns.f, hl, ↓reduceIte]⟩
  · refine Ev.rounds (g := fun k => laws_FnExactNextSigns.f k n s) ?_
    simp only [laws_FnExactNextSigns.f, hl, ↓reduceIte]
    have hs' : s.size ≤ 1048576 := by omega
    cases h : isBeg n s with
    | false =>
      have a : Ev (fun k => spec_NextSigns.f k n s) (⟨#[]⟩, false) := by
        unfold spec_NextSigns.f
        refine Ev.bind (ev_specIsBeginning n s hs') ?_
        simp only [h, Bool.false_eq_true, ↓reduceIte]
        exact Ev.now _
      have b : Ev (fun k => impl_NextSigns.f k n s) (⟨#[]⟩, false) := by
        unfold impl_NextSigns.f
        refine Ev.bind (ev_isBeginning n s hs') ?_
        simp only [h, Bool.false_eq_true, ↓reduceIte]
        exact Ev.now _
      refine Ev.bind a (Ev.bind b ?_)
      simp only [bne_self_eq_false, Bool.false_eq_true, ↓reduceIte]
      exact Ev.now _
    | true =>
      obtain ⟨⟨p, q⟩, hb⟩ : ∃ r, beg n (bs s) 0 0 = some r := by
        have h' := h
        unfold isBeg at h'
        simp only [Bool.and_eq_true] at h'
        exact Option.isSome_iff_exists.1 h'.2
      have a : Ev (fun k => spec_NextSigns.f k n s) (signs n p q, true) := by
        unfold spec_NextSigns.f
        refine Ev.bind (ev_specIsBeginning n s hs') ?_
        simp only [h, ↓reduceIte]
        exact Ev.bind (ev_l11Signs n s hs' p q h hb) (Ev.now _)
      have b : Ev (fun k => impl_NextSigns.f k n s) (signs n p q, true) := by
        unfold impl_NextSigns.f
        refine Ev.bind (ev_isBeginning n s hs') ?_
        simp only [h, ↓reduceIte]
        exact Ev.bind (ev_nextSigns n s hs' p q h hb) (Ev.now _)
      refine Ev.bind a (Ev.bind b ?_)
      simp only [bne_self_eq_false, Bool.false_eq_true, ↓reduceIte]
      exact Ev.now _

end Go.Proofs.Ytdjbimallgbioaa.Pure
