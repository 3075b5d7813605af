/- EncodeRecord: the program and the reference write the same line. -/
import Derived.Test.YtploljmcbkigkaaDoorXa4
import Derived.Test.YtploljmcbkigkaaDoorXa3
import Derived.Test.YtploljmcbkigkaaDoorXa2
import Derived.Test.YtploljmcbkigkaaDoorXa1
import Derived.Test.YtploljmcbkigkaaDoorXaHnum
import Derived.Test.YtploljmcbkigkaaDoorXaHitoa
import Derived.Test.YtploljmcbkigkaaDoorXaHcontains
import Derived.Test.YtploljmcbkigkaaDoorPk
import Derived.Lib.IndexLaws
set_option linter.unusedVariables false
set_option linter.unusedSimpArgs false
namespace Go.Proofs.YtploljmcbkigkaaDoor.Pure
open Go.RowKit Go.Proofs.YtploljmcbkigkaaDoor.Xa Go.Proofs.YtploljmcbkigkaaDoorW.PrintWords Go.Proofs.YtploljmcbkigkaaDoorW.PrintLast Go.Proofs.YtploljmcbkigkaaDoor.Pk

theorem ev_l1In' (a b c : Int) : spec_l1In.f a b c = some (decide (b ≤ a) && decide (a ≤ c)) := by
  unfold spec_l1In.f
  by_cases h : b ≤ a
  · rw [if_pos h, decide_eq_true h, Bool.true_and]
  · rw [if_neg h, decide_eq_false h, Bool.false_and]
/-! ### records: plain texts, commands -/
def plainB (l : List Int) : Bool := l.all fun c => decide (32 ≤ c) && decide (c ≤ 126) && !decide (c = 35)
theorem plainB_cons (c : Int) (l : List Int) : plainB (c :: l) = ((decide (32 ≤ c) && decide (c ≤ 126) && !decide (c = 35)) && plainB l) := rfl
theorem toList_nil_iff (s : ByteArray) : s.toList = ([] : List UInt8) ↔ s.size = 0 := by
  rw [Go.Lib.toList_data s]
  constructor
  · intro h
    have : s.data.toList.length = 0 := by rw [h]; rfl
    simpa using this
  · intro h
    exact List.length_eq_zero_iff.1 (by simpa using h)
theorem bt_byte (s : ByteArray) (j : Nat) (h : j < s.size) : 0 ≤ bt s (j : Int) ∧ bt s (j : Int) ≤ 255 := by
  rw [← bs_get s j h]
  exact bs_byte s _ (List.getElem_mem _)
theorem wrap_bt (s : ByteArray) (j : Nat) (h : j < s.size) : wrap64 (bt s (j : Int)) = bt s (j : Int) := by
  have := bt_byte s j h
  exact wr (by omega) (by omega)
theorem l1In_some (a b c : Int) : spec_l1In.f a b c = some (decide (b ≤ a) && decide (a ≤ c)) := by
  unfold spec_l1In.f
  by_cases h : b ≤ a
  · rw [if_pos h, decide_eq_true h, Bool.true_and]
  · rw [if_neg h, decide_eq_false h, Bool.false_and]
theorem ev_l12Bytes (s : ByteArray) (m : Int) (hs : s.size ≤ 9223372036854775807) : Ev (fun k => spec_l12Bytes.f k s m) (plainB (bs s) && decide ((s.size : Int) ≤ m)) := by
  have go : ∀ (n j : Nat), j + n = s.size → Ev (fun k => spec_l12Bytes.l0 k s m (j : Int)) (plainB ((bs s).drop j) && decide ((s.size : Int) ≤ m)) := by
    intro n
    induction n with
    | zero =>
      intro j hj
      have c : ¬ (j : Int) < (s.size : Int) := by omega
      rw [bs_end s j (by omega)]
      refine Ev.step (f := fun _ => some (decide ((s.size : Int) ≤ m))) (fun k => by simp only [spec_l12Bytes.l0, c, ↓reduceIte]) ?_
      exact Ev.now _
    | succ n ih =>
      intro j hj
      have c : (j : Int) < (s.size : Int) := by omega
      have c0 : 0 ≤ (j : Int) := by omega
      have e1 := Aside0.mk (show wrap64 ((j : Int) + 1) = ((j + 1 : Nat) : Int) from wj (by omega))
      have eb := Aside0.mk (wrap_bt s j (by omega))
      rw [bs_drop s j (by omega), plainB_cons]
      by_cases h : (decide (32 ≤ bt s (j : Int)) && decide (bt s (j : Int) ≤ 126)) = true
      · by_cases h35 : bt s (j : Int) = 35
        · rw [decide_eq_true h35, Bool.not_true, Bool.and_false, Bool.false_and, Bool.false_and]
          refine Ev.step (f := fun _ => some false) (fun k => ?_) (Ev.now _)
          simp only [spec_l12Bytes.l0, c, c0, l1In_some, eb.out, h, Option.bind_some, ↓reduceIte]
          rw [if_pos h35]
        · rw [h, decide_eq_false h35, Bool.not_false, Bool.and_true, Bool.true_and]
          refine Ev.step (fun k => ?_) (ih (j + 1) (by omega))
          simp only [spec_l12Bytes.l0, c, c0, l1In_some, eb.out, h, Option.bind_some, e1.out, ↓reduceIte]
          rw [if_neg h35]
      · have h' := Bool.eq_false_iff.2 h
        rw [h', Bool.false_and, Bool.false_and, Bool.false_and]
        refine Ev.step (f := fun _ => some false) (fun k => ?_) (Ev.now _)
        simp only [spec_l12Bytes.l0, c, c0, l1In_some, eb.out, h', Option.bind_some, Bool.false_eq_true, ↓reduceIte]
  have := go s.size 0 (by omega)
  rw [List.drop_zero] at this
  exact this
theorem ev_isPlain (s : ByteArray) (hs : s.size ≤ 9223372036854775807) : Ev (fun k => impl_isPlain.f k s) (plainB (bs s)) := by
  have go : ∀ (n j : Nat), j + n = s.size → Ev (fun k => impl_isPlain.l0 k s (s.size : Int) (j : Int)) (plainB ((bs s).drop j)) := by
    intro n
    induction n with
    | zero =>
      intro j hj
      have c : ¬ (j : Int) < (s.size : Int) := by omega
      rw [bs_end s j (by omega)]
      exact Ev.step (f := fun _ => some true) (fun k => by simp only [impl_isPlain.l0, c, ↓reduceIte]) (Ev.now _)
    | succ n ih =>
      intro j hj
      have c : (j : Int) < (s.size : Int) := by omega
      have c0 : 0 ≤ (j : Int) := by omega
      have e1 := Aside0.mk (show wrap64 ((j : Int) + 1) = ((j + 1 : Nat) : Int) from wj (by omega))
      rw [bs_drop s j (by omega), plainB_cons]
      by_cases h1 : bt s (j : Int) < 32
      · rw [decide_eq_false (by omega), Bool.false_and, Bool.false_and, Bool.false_and]
        exact Ev.step (f := fun _ => some false) (fun k => by simp only [impl_isPlain.l0, c, c0, h1, ↓reduceIte]) (Ev.now _)
      · by_cases h2 : bt s (j : Int) > 126
        · rw [decide_eq_false (p := bt s (j : Int) ≤ 126) (by omega), Bool.and_false, Bool.false_and, Bool.false_and]
          exact Ev.step (f := fun _ => some false) (fun k => by simp only [impl_isPlain.l0, c, c0, h1, h2, ↓reduceIte]) (Ev.now _)
        · rw [decide_eq_true (p := 32 ≤ bt s (j : Int)) (by omega), decide_eq_true (p := bt s (j : Int) ≤ 126) (by omega), Bool.true_and]
          by_cases h35 : bt s (j : Int) = 35
          · rw [decide_eq_true h35, Bool.not_true, Bool.and_false, Bool.false_and]
            exact Ev.step (f := fun _ => some false) (fun k => by simp only [impl_isPlain.l0, c, c0, h1, h2, ↓reduceIte]; rw [if_pos h35]) (Ev.now _)
          · rw [decide_eq_false h35, Bool.not_false, Bool.and_true, Bool.true_and]
            exact Ev.step (fun k => by simp only [impl_isPlain.l0, c, c0, h1, h2, e1.out, ↓reduceIte]; rw [if_neg h35]) (ih (j + 1) (by omega))
  have := go s.size 0 (by omega)
  rw [List.drop_zero] at this
  exact this
theorem ev_l1Stands (s : ByteArray) (x : Int) (hs : s.size ≤ 9223372036854775807) : Ev (fun k => spec_l1Stands.f k s x) ((bs s).contains x) := by
  have go : ∀ (n j : Nat), j + n = s.size → Ev (fun k => spec_l1Stands.l0 k s x (j : Int)) (((bs s).drop j).contains x) := by
    intro n
    induction n with
    | zero =>
      intro j hj
      have c : ¬ (j : Int) < (s.size : Int) := by omega
      rw [bs_end s j (by omega)]
      exact Ev.step (f := fun _ => some false) (fun k => by simp only [spec_l1Stands.l0, c, ↓reduceIte]) (Ev.now _)
    | succ n ih =>
      intro j hj
      have c : (j : Int) < (s.size : Int) := by omega
      have c0 : 0 ≤ (j : Int) := by omega
      have e1 := Aside0.mk (show wrap64 ((j : Int) + 1) = ((j + 1 : Nat) : Int) from wj (by omega))
      rw [bs_drop s j (by omega), List.contains_cons]
      by_cases h : bt s (j : Int) = x
      · have hb : (x == bt s (j : Int)) = true := beq_iff_eq.2 h.symm
        rw [hb, Bool.true_or]
        exact Ev.step (f := fun _ => some true) (fun k => by simp only [spec_l1Stands.l0, c, c0, ↓reduceIte]; rw [if_pos h]) (Ev.now _)
      · have hb : (x == bt s (j : Int)) = false := beq_eq_false_iff_ne.2 (fun e => h e.symm)
        rw [hb, Bool.false_or]
        exact Ev.step (fun k => by simp only [spec_l1Stands.l0, c, c0, h, e1.out, ↓reduceIte]) (ih (j + 1) (by omega))
  have := go s.size 0 (by omega)
  rw [List.drop_zero] at this
  exact this
theorem index_contains (l : List UInt8) (c : UInt8) : decide (0 ≤ Go.Lib.indexByte l c) = (l.map fun u => (u.toNat : Int)).contains (c.toNat : Int) := by
  induction l with
  | nil => rfl
  | cons b t ih =>
    rw [List.map_cons, List.contains_cons, ← ih]
    have hge := Go.Lib.indexByte_ge t c
    have e : Go.Lib.indexByte (b :: t) c = if b == c then 0 else if Go.Lib.indexByte t c == -1 then -1 else Go.Lib.indexByte t c + 1 := rfl
    rw [e]
    by_cases h : b = c
    · subst h
      simp
    · have h1 : (b == c) = false := beq_eq_false_iff_ne.2 h
      have h2 : ((c.toNat : Int) == (b.toNat : Int)) = false := beq_eq_false_iff_ne.2 (fun e => h (UInt8.toNat_inj.1 (by omega)))
      simp only [h1, h2, Bool.false_or, Bool.false_eq_true, ↓reduceIte]
      by_cases h3 : Go.Lib.indexByte t c = -1
      · simp [h3]
      · have h4 : (Go.Lib.indexByte t c == -1) = false := beq_eq_false_iff_ne.2 h3
        simp only [h4, Bool.false_eq_true, ↓reduceIte]
        exact decide_eq_decide.2 ⟨fun _ => by omega, fun _ => by omega⟩
theorem contains_64 (s : ByteArray) : strings_Contains.f s (⟨#[64]⟩ : ByteArray) = some ((bs s).contains 64) := by
  have := index_contains s.data.toList 64
  unfold strings_Contains.f
  dsimp only
  rw [this]
  rfl
/-- Is it a record? -/
def recB (a b : ByteArray) : Bool := decide (1 ≤ (a.size : Int)) && (plainB (bs a) && decide ((a.size : Int) ≤ 160)) && !(bs a).contains 64 && (plainB (bs b) && decide ((b.size : Int) ≤ 250))
theorem ev_l12Record (a b : ByteArray) (ha : a.size ≤ 9223372036854775807) (hb : b.size ≤ 9223372036854775807) : Ev (fun k => spec_l12Record.f k a b) (recB a b) := by
  unfold spec_l12Record.f recB
  by_cases h0 : a.size = 0
  · have c := (toList_nil_iff a).2 h0
    simp only [c, ↓reduceIte]
    rw [decide_eq_false (by omega)]
    simp only [Bool.false_and]
    exact Ev.now _
  · have c : ¬ a.toList = ([] : List UInt8) := fun h => h0 ((toList_nil_iff a).1 h)
    simp only [c, ↓reduceIte]
    rw [decide_eq_true (p := 1 ≤ (a.size : Int)) (by omega), Bool.true_and]
    refine Ev.bind (ev_l12Bytes a 160 ha) ?_
    cases hp : (plainB (bs a) && decide ((a.size : Int) ≤ 160)) with
    | false =>
      simp only [Bool.false_eq_true, Bool.false_and, ↓reduceIte]
      exact Ev.now _
    | true =>
      simp only [Bool.true_and, ↓reduceIte]
      refine Ev.bind (ev_l1Stands a 64 ha) ?_
      cases hc : (bs a).contains 64 with
      | true =>
        simp only [Bool.not_true, Bool.false_and, ↓reduceIte]
        exact Ev.now _
      | false =>
        simp only [Bool.false_eq_true, Bool.not_false, Bool.true_and, ↓reduceIte]
        exact Ev.bind (ev_l12Bytes b 250 hb) (Ev.now _)
theorem ev_isCommand (a : ByteArray) (ha : a.size ≤ 9223372036854775807) : Ev (fun k => impl_isCommand.f k a) (decide (1 ≤ (a.size : Int)) && (plainB (bs a) && decide ((a.size : Int) ≤ 160)) && !(bs a).contains 64) := by
  unfold impl_isCommand.f
  by_cases h1 : (a.size : Int) ≥ 1
  · simp only [h1, ↓reduceIte]
    simp only [decide_true, Bool.true_and]
    by_cases h2 : (a.size : Int) ≤ 160
    · simp only [h2, decide_true, Bool.and_true, ↓reduceIte]
      refine Ev.bind (ev_isPlain a ha) ?_
      cases hp : plainB (bs a) with
      | false =>
        simp only [Bool.false_eq_true, Bool.false_and, ↓reduceIte]
        exact Ev.now _
      | true =>
        simp only [contains_64, Option.bind_some, Bool.true_and, ↓reduceIte]
        exact Ev.now _
    · simp only [h2, decide_false, Bool.and_false, Bool.false_and, ↓reduceIte]
      exact Ev.now _
  · simp only [h1, ↓reduceIte]
    simp only [decide_false, Bool.false_and]
    exact Ev.now _
theorem ev_IsValidRecord (a b : ByteArray) (ha : a.size ≤ 9223372036854775807) (hb : b.size ≤ 9223372036854775807) : Ev (fun k => impl_IsValidRecord.f k a b) (recB a b) := by
  unfold impl_IsValidRecord.f recB
  refine Ev.bind (ev_isCommand a ha) ?_
  cases hp : (decide (1 ≤ (a.size : Int)) && (plainB (bs a) && decide ((a.size : Int) ≤ 160)) && !(bs a).contains 64) with
  | false =>
    simp only [Bool.false_eq_true, Bool.false_and, ↓reduceIte]
    exact Ev.now _
  | true =>
    simp only [Bool.true_and, ↓reduceIte]
    by_cases h2 : (b.size : Int) ≤ 250
    · simp only [h2, decide_true, Bool.and_true, ↓reduceIte]
      exact Ev.bind (ev_isPlain b hb) (Ev.now _)
    · simp only [h2, decide_false, Bool.and_false, ↓reduceIte]
      exact Ev.now _
/-! ### numerals and checksums -/
theorem sz1 (c : UInt8) : (⟨#[c]⟩ : ByteArray).size = 1 := rfl
theorem bs1 (c : UInt8) : bs (⟨#[c]⟩ : ByteArray) = [(c.toNat : Int)] := rfl
theorem numT_le : ∀ (d n : Nat), n < 10 ^ (d + 1) → (numT n).size ≤ d + 1
  | 0, n, h => by
    rw [numT_small n (by omega), sz1]
    exact Nat.le_refl _
  | d + 1, n, h => by
    by_cases h10 : n < 10
    · rw [numT_small n h10, sz1]
      omega
    · rw [numT_step n h10, size_append, sz1]
      have := numT_le d (n / 10) (by rw [Nat.pow_succ] at h; omega)
      omega
theorem numT_digit (n : Nat) : ∀ c ∈ bs (numT n), 48 ≤ c ∧ c ≤ 57 := by
  induction n using Nat.strongRecOn with
  | ind n ih =>
    intro c hc
    have key : ∀ d : Nat, d < 10 → ((UInt8.ofNat (48 + d)).toNat : Int) = 48 + (d : Int) := by
      intro d hd
      rw [UInt8.toNat_ofNat', Nat.mod_eq_of_lt (by omega)]
      omega
    by_cases h10 : n < 10
    · rw [numT_small n h10, bs1, List.mem_singleton, key n h10] at hc
      omega
    · rw [numT_step n h10, bs_append, bs1, List.mem_append, List.mem_singleton, key _ (by omega)] at hc
      rcases hc with hc | hc
      · exact ih (n / 10) (by omega) c hc
      · omega
theorem numT_one (n : Nat) : 1 ≤ (numT n).size := by
  by_cases h10 : n < 10
  · rw [numT_small n h10, sz1]
    exact Nat.le_refl _
  · rw [numT_step n h10, size_append, sz1]
    omega
theorem l1Num_eq (a : Int) (h0 : 0 ≤ a) (h1 : a ≤ 9223372036854775807) : spec_l1Num.f a = some (numT a.toNat) := by
  unfold spec_l1Num.f
  rw [if_pos ⟨h0, h1⟩]
theorem itoa_eq (a : Int) (h0 : 0 ≤ a) (h1 : a ≤ 9223372036854775807) : strconv_Itoa.f a = some (numT a.toNat) := by
  unfold strconv_Itoa.f
  rw [if_pos ⟨by omega, h1⟩]
  unfold Go.Lib.itoa
  rw [if_neg (by omega)]
  rfl
/-- The checksum of bytes, from h on. -/
def sumF : List Int → Int → Int
  | [], h => h
  | c :: t, h => sumF t (Int.tmod (41 * h + c + 1) 999979)
theorem sumF_step (c h : Int) (hc : 0 ≤ c ∧ c ≤ 255) (hh : 0 ≤ h ∧ h < 999979) : 0 ≤ Int.tmod (41 * h + c + 1) 999979 ∧ Int.tmod (41 * h + c + 1) 999979 < 999979 := by
  rw [Int.tmod_eq_emod_of_nonneg (by omega)]
  omega
theorem sumF_wrap (c h : Int) (hc : 0 ≤ c ∧ c ≤ 255) (hh : 0 ≤ h ∧ h < 999979) : wrap64 (wrap64 (wrap64 (41 * h) + c) + 1) = 41 * h + c + 1 := by
  rw [wr (i := 41 * h) (by omega) (by omega), wr (i := 41 * h + c) (by omega) (by omega), wr (by omega) (by omega)]
theorem sumF_bound : ∀ (l : List Int) (h : Int), (∀ c ∈ l, 0 ≤ c ∧ c ≤ 255) → 0 ≤ h ∧ h < 999979 → 0 ≤ sumF l h ∧ sumF l h < 999979
  | [], h, _, hh => hh
  | c :: t, h, hl, hh => sumF_bound t _ (fun x hx => hl x (by simp [hx])) (sumF_step c h (hl c (by simp)) hh)
/-- The checksum of a text. -/
def sumT (s : ByteArray) : Int := sumF (bs s) 7
theorem sumT_bound (s : ByteArray) : 0 ≤ sumT s ∧ sumT s < 999979 := sumF_bound _ _ (bs_byte s) (by omega)
theorem ev_l1Sum (s : ByteArray) (hs : s.size ≤ 9223372036854775807) : Ev (fun k => spec_l1Sum.f k s) (sumT s) := by
  have go : ∀ (n j : Nat) (h : Int), 0 ≤ h ∧ h < 999979 → j + n = s.size → Ev (fun k => spec_l1Sum.l0 k s h (j : Int)) (sumF ((bs s).drop j) h) := by
    intro n
    induction n with
    | zero =>
      intro j h hh hj
      have c : ¬ (j : Int) < (s.size : Int) := by omega
      rw [bs_end s j (by omega)]
      exact Ev.step (f := fun _ => some h) (fun k => by simp only [spec_l1Sum.l0, c, ↓reduceIte]) (Ev.now _)
    | succ n ih =>
      intro j h hh hj
      have c : (j : Int) < (s.size : Int) := by omega
      have c0 : 0 ≤ (j : Int) := by omega
      have e1 := Aside0.mk (show wrap64 ((j : Int) + 1) = ((j + 1 : Nat) : Int) from wj (by omega))
      have eb := Aside0.mk (wrap_bt s j (by omega))
      have e2 := Aside0.mk (sumF_wrap (bt s (j : Int)) h (bt_byte s j (by omega)) hh)
      rw [bs_drop s j (by omega)]
      exact Ev.step (fun k => by simp only [spec_l1Sum.l0, c, c0, eb.out, e2.out, e1.out, ↓reduceIte]) (ih (j + 1) _ (sumF_step _ h (bt_byte s j (by omega)) hh) (by omega))
  have := go s.size 0 7 (by omega) (by omega)
  rw [List.drop_zero] at this
  exact this
theorem ev_checksum (s : ByteArray) (hs : s.size ≤ 9223372036854775807) : Ev (fun k => impl_checksum.f k s) (sumT s) := by
  have go : ∀ (n j : Nat) (h : Int), 0 ≤ h ∧ h < 999979 → j + n = s.size → Ev (fun k => impl_checksum.l0 k s h (s.size : Int) (j : Int)) (sumF ((bs s).drop j) h) := by
    intro n
    induction n with
    | zero =>
      intro j h hh hj
      have c : ¬ (j : Int) < (s.size : Int) := by omega
      rw [bs_end s j (by omega)]
      exact Ev.step (f := fun _ => some h) (fun k => by simp only [impl_checksum.l0, c, ↓reduceIte]) (Ev.now _)
    | succ n ih =>
      intro j h hh hj
      have c : (j : Int) < (s.size : Int) := by omega
      have c0 : 0 ≤ (j : Int) := by omega
      have e1 := Aside0.mk (show wrap64 ((j : Int) + 1) = ((j + 1 : Nat) : Int) from wj (by omega))
      have eb := Aside0.mk (wrap_bt s j (by omega))
      have e2 := Aside0.mk (sumF_wrap (bt s (j : Int)) h (bt_byte s j (by omega)) hh)
      rw [bs_drop s j (by omega)]
      exact Ev.step (fun k => by simp only [impl_checksum.l0, c, c0, eb.out, e2.out, e1.out, ↓reduceIte]) (ih (j + 1) _ (sumF_step _ h (bt_byte s j (by omega)) hh) (by omega))
  have := go s.size 0 7 (by omega) (by omega)
  rw [List.drop_zero] at this
  exact this
/-- A text with its checksum behind it. -/
def sealT (s : ByteArray) : ByteArray := (s ++ (⟨#[35]⟩ : ByteArray)) ++ numT (sumT s).toNat
theorem sealT_size (s : ByteArray) : s.size + 2 ≤ (sealT s).size ∧ (sealT s).size ≤ s.size + 7 := by
  unfold sealT
  rw [size_append, size_append, sz1]
  have h1 := sumT_bound s
  have h2 := numT_le 5 (sumT s).toNat (by omega)
  have h3 := numT_one (sumT s).toNat
  omega
theorem ev_l1Seal (s : ByteArray) (hs : s.size ≤ 9223372036854775000) : Ev (fun k => spec_l1Seal.f k s) (sealT s) := by
  have h1 := sumT_bound s
  have h2 := sealT_size s
  have c1 : s.size + 1 ≤ 9223372036854775807 := by omega
  have c2 : (s ++ (⟨#[35]⟩ : ByteArray)).size + (numT (sumT s).toNat).size ≤ 9223372036854775807 := by
    rw [← size_append]
    exact Nat.le_trans h2.2 (by omega)
  unfold spec_l1Seal.f
  simp only [c1, ↓reduceIte]
  refine Ev.bind (ev_l1Sum s (by omega)) ?_
  simp only [l1Num_eq (sumT s) (by omega) (by omega), Option.bind_some, c2, ↓reduceIte]
  exact Ev.now _
theorem contains_35 (s : ByteArray) : strings_Contains.f s (⟨#[35]⟩ : ByteArray) = some ((bs s).contains 35) := by
  have := index_contains s.data.toList 35
  unfold strings_Contains.f
  dsimp only
  rw [this]
  rfl
theorem ev_AppendChecksum (s : ByteArray) (hs : s.size ≤ 3990) (h35 : (bs s).contains 35 = false) : Ev (fun k => impl_AppendChecksum.f k s) (sealT s, true) := by
  have h1 := sumT_bound s
  have h2 := sealT_size s
  have c1 : s.size + 1 ≤ 9223372036854775807 := by omega
  have c2 : (s ++ (⟨#[35]⟩ : ByteArray)).size + (numT (sumT s).toNat).size ≤ 9223372036854775807 := by
    rw [← size_append]
    exact Nat.le_trans h2.2 (by omega)
  have c3 : ¬ ((((s ++ (⟨#[35]⟩ : ByteArray)) ++ numT (sumT s).toNat).size : Int) > 4000) := by
    have : ((s ++ (⟨#[35]⟩ : ByteArray)) ++ numT (sumT s).toNat).size ≤ s.size + 7 := h2.2
    omega
  have c4 : ¬ ((s.size : Int) > 4000) := by omega
  have hl : Ev (fun k => impl_AppendChecksum.j0 k s false) (sealT s, true) := by
    refine Ev.step (f := fun k => impl_AppendChecksum.j0 (k + 1) s false) (fun k => rfl) ?_
    simp only [impl_AppendChecksum.j0, Bool.false_eq_true, ↓reduceIte, c1]
    refine Ev.bind (ev_checksum s (by omega)) ?_
    simp only [itoa_eq (sumT s) (by omega) (by omega), Option.bind_some, c2, c3, ↓reduceIte]
    exact Ev.now _
  unfold impl_AppendChecksum.f
  simp only [c4, ↓reduceIte, contains_35, h35, Option.bind_some]
  exact hl
/-- A record's line without checksum. -/
def bodyT (k : Int) (a b : ByteArray) : ByteArray := (((numT k.toNat ++ (⟨#[32]⟩ : ByteArray)) ++ a) ++ (⟨#[64]⟩ : ByteArray)) ++ b
/-- A record's line. -/
def lineT (k : Int) (a b : ByteArray) : ByteArray := sealT (bodyT k a b) ++ (⟨#[10]⟩ : ByteArray)
theorem recB_sizes {a b : ByteArray} (h : recB a b = true) : 1 ≤ a.size ∧ a.size ≤ 160 ∧ b.size ≤ 250 ∧ plainB (bs a) = true ∧ plainB (bs b) = true ∧ (bs a).contains 64 = false := by
  unfold recB at h
  simp only [Bool.and_eq_true, decide_eq_true_eq, Bool.not_eq_true'] at h
  exact ⟨by omega, by omega, by omega, h.1.1.2.1, h.2.1, h.1.2⟩
theorem plainB_mem : ∀ {l : List Int}, plainB l = true → ∀ c ∈ l, 32 ≤ c ∧ c ≤ 126 ∧ c ≠ 35
  | l, h, c, hc => by
    have := List.all_eq_true.1 h c hc
    simp only [Bool.and_eq_true, decide_eq_true_eq, Bool.not_eq_true', decide_eq_false_iff_not] at this
    exact ⟨this.1.1, this.1.2, this.2⟩
theorem bodyT_size (k : Int) (a b : ByteArray) (hk : 0 ≤ k ∧ k ≤ 59) (h : recB a b = true) : (bodyT k a b).size ≤ a.size + b.size + 4 ∧ (numT k.toNat).size ≤ 2 := by
  have h1 := numT_le 1 k.toNat (by omega)
  unfold bodyT
  simp only [size_append, sz1]
  omega
theorem bodyT_bytes (k : Int) (a b : ByteArray) (h : recB a b = true) : ∀ c ∈ bs (bodyT k a b), 32 ≤ c ∧ c ≤ 126 ∧ c ≠ 35 := by
  obtain ⟨_, _, _, pa, pb, _⟩ := recB_sizes h
  intro c hc
  unfold bodyT at hc
  simp only [bs_append, List.mem_append, bs1, List.mem_singleton] at hc
  rcases hc with (((hc | hc) | hc) | hc) | hc
  · have := numT_digit _ c hc
    omega
  · rw [hc]
    decide
  · exact plainB_mem pa c hc
  · rw [hc]
    decide
  · exact plainB_mem pb c hc
theorem ev_l12Line (k : Int) (a b : ByteArray) (hk : 0 ≤ k ∧ k ≤ 59) (h : recB a b = true) : Ev (fun n => spec_l12Line.f n k a b) (lineT k a b) := by
  obtain ⟨s1, s2⟩ := bodyT_size k a b hk h
  obtain ⟨_, ha, hb, _⟩ := recB_sizes h
  unfold spec_l12Line.f
  have c1 : (numT k.toNat).size + 1 ≤ 9223372036854775807 := by omega
  have c2 : (numT k.toNat ++ (⟨#[32]⟩ : ByteArray)).size + a.size ≤ 9223372036854775807 := by simp only [size_append, sz1]; omega
  have c3 : ((numT k.toNat ++ (⟨#[32]⟩ : ByteArray)) ++ a).size + 1 ≤ 9223372036854775807 := by simp only [size_append, sz1]; omega
  have c4 : (((numT k.toNat ++ (⟨#[32]⟩ : ByteArray)) ++ a) ++ (⟨#[64]⟩ : ByteArray)).size + b.size ≤ 9223372036854775807 := by simp only [size_append, sz1]; omega
  have c5 : (sealT (bodyT k a b)).size + 1 ≤ 9223372036854775807 := by
    have := (sealT_size (bodyT k a b)).2
    omega
  simp only [l1Num_eq k hk.1 (by omega), Option.bind_some, c1, c2, c3, c4, ↓reduceIte]
  refine Ev.bind (ev_l1Seal (bodyT k a b) (by omega)) ?_
  simp only [c5, ↓reduceIte]
  exact Ev.now _
/-- What encoding a record gives. -/
def encT (k : Int) (a b : ByteArray) : ByteArray × Bool := if (decide (0 ≤ k) && decide (k ≤ 59) && recB a b) = true then (lineT k a b, true) else ((⟨#[]⟩ : ByteArray), false)
theorem ev_specEnc (k : Int) (a b : ByteArray) (ha : a.size ≤ 9223372036854775807) (hb : b.size ≤ 9223372036854775807) : Ev (fun n => spec_EncodeRecord.f n k a b) (encT k a b) := by
  unfold spec_EncodeRecord.f encT
  simp only [l1In_some, Option.bind_some]
  cases hk : (decide (0 ≤ k) && decide (k ≤ 59)) with
  | false =>
    simp only [Bool.false_eq_true, Bool.false_and, ↓reduceIte]
    exact Ev.now _
  | true =>
    simp only [Bool.true_and, ↓reduceIte]
    simp only [Bool.and_eq_true, decide_eq_true_eq] at hk
    refine Ev.bind (ev_l12Record a b ha hb) ?_
    cases hr : recB a b with
    | false =>
      simp only [Bool.false_eq_true, ↓reduceIte]
      exact Ev.now _
    | true =>
      simp only [↓reduceIte]
      exact Ev.bind (ev_l12Line k a b hk hr) (Ev.now _)
theorem ev_implEnc (k : Int) (a b : ByteArray) (ha : a.size ≤ 9223372036854775807) (hb : b.size ≤ 9223372036854775807) : Ev (fun n => impl_EncodeRecord.f n k a b) (encT k a b) := by
  have bad : Ev (fun n => impl_EncodeRecord.j0 n k true a b) ((⟨#[]⟩ : ByteArray), false) :=
    Ev.step (f := fun _ => some ((⟨#[]⟩ : ByteArray), false)) (fun n => by simp only [impl_EncodeRecord.j0, ↓reduceIte]) (Ev.now _)
  unfold impl_EncodeRecord.f encT
  by_cases k0 : k < 0
  · simp only [k0, ↓reduceIte]
    rw [decide_eq_false (by omega), Bool.false_and, Bool.false_and, if_neg Bool.false_ne_true]
    exact bad
  · by_cases k1 : k ≥ 60
    · simp only [k0, k1, ↓reduceIte]
      rw [decide_eq_false (p := k ≤ 59) (by omega), Bool.and_false, Bool.false_and, if_neg Bool.false_ne_true]
      exact bad
    · simp only [k0, k1, ↓reduceIte]
      rw [decide_eq_true (p := k ≤ 59) (by omega), decide_eq_true (p := 0 ≤ k) (by omega), Bool.true_and, Bool.true_and]
      refine Ev.bind (ev_IsValidRecord a b ha hb) ?_
      cases hr : recB a b with
      | false =>
        rw [if_neg Bool.false_ne_true]
        exact bad
      | true =>
        rw [if_pos rfl]
        obtain ⟨s1, s2⟩ := bodyT_size k a b (by omega) hr
        obtain ⟨_, za, zb, _⟩ := recB_sizes hr
        have c1 : (numT k.toNat).size + 1 ≤ 9223372036854775807 := by omega
        have c2 : (numT k.toNat ++ (⟨#[32]⟩ : ByteArray)).size + a.size ≤ 9223372036854775807 := by simp only [size_append, sz1]; omega
        have c3 : ((numT k.toNat ++ (⟨#[32]⟩ : ByteArray)) ++ a).size + 1 ≤ 9223372036854775807 := by simp only [size_append, sz1]; omega
        have c4 : (((numT k.toNat ++ (⟨#[32]⟩ : ByteArray)) ++ a) ++ (⟨#[64]⟩ : ByteArray)).size + b.size ≤ 9223372036854775807 := by simp only [size_append, sz1]; omega
        have c5 : (sealT (bodyT k a b)).size + 1 ≤ 9223372036854775807 := by
          have := (sealT_size (bodyT k a b)).2
          omega
        refine Ev.step (f := fun n => impl_EncodeRecord.j0 (n + 1) k false a b) (fun n => rfl) ?_
        simp only [impl_EncodeRecord.j0, Bool.false_eq_true, itoa_eq k (by omega) (by omega), Option.bind_some, c1, c2, c3, c4, ↓reduceIte]
        refine Ev.bind (ev_AppendChecksum (bodyT k a b) (by omega) ?_) ?_
        · rw [Bool.eq_false_iff]
          intro h
          exact (bodyT_bytes k a b hr 35 (by simpa using h)).2.2 rfl
        · simp only [c5, ↓reduceIte]
          exact Ev.now _
theorem FnExactEncodeRecord (k : Int) (a b : ByteArray) (ha : a.size ≤ 9223372036854775807) (hb : b.size ≤ 9223372036854775807) : ∃ n, laws_FnExactEncodeRecord.f n k a b = some true := by
  refine Ev.rounds (g := fun n => laws_FnExactEncodeRecord.f n k a b) ?_
  unfold laws_FnExactEncodeRecord.f
  have hz : ∃ z, laws_szLogRecord.f a b 1048576 = some z := by
    unfold laws_szLogRecord.f
    split
    · exact ⟨_, rfl⟩
    · split
      · exact ⟨_, rfl⟩
      · exact ⟨_, rfl⟩
  obtain ⟨z, hz⟩ := hz
  simp only [hz, Option.bind_some]
  by_cases h : z < 0
  · simp only [h, ↓reduceIte]
    exact Ev.now _
  · simp only [h, ↓reduceIte, laws_toLogRecord.f, Option.bind_some]
    refine Ev.bind (ev_specEnc k a b ha hb) (Ev.bind (ev_implEnc k a b ha hb) ?_)
    simp only [bne_self_eq_false, Bool.false_eq_true, ↓reduceIte]
    exact Ev.now _

end Go.Proofs.YtploljmcbkigkaaDoor.Pure
