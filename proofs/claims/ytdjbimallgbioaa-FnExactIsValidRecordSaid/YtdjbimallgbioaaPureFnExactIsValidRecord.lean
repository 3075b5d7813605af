/- IsValidRecord: the program and the reference tell the same of every record. -/
import Derived.Test.YtdjbimallgbioaaXb2
import Derived.Test.YtdjbimallgbioaaXb1
import Derived.Test.YtdjbimallgbioaaXbHcontains
import Derived.Test.YtdjbimallgbioaaPk
import Derived.Lib.IndexLaws
set_option linter.unusedVariables false
set_option linter.unusedSimpArgs false
namespace Go.Proofs.Ytdjbimallgbioaa.Pure
open Go.RowKit Go.Proofs.Ytdjbimallgbioaa.Xb Go.Proofs.YtdjbimallgbioaaW.PrintWords Go.Proofs.YtdjbimallgbioaaW.PrintLast Go.Proofs.Ytdjbimallgbioaa.Pk

theorem ev_l1In' (a b c : Int) : spec_l1In.f a b c = some (decide (b ≤ a) && decide (a ≤ c)) := by
  unfold spec_l1In.f
  by_cases h : b ≤ a
  · rw [if_pos h, decide_eq_true h, Bool.true_and]
  · rw [if_neg h, decide_eq_false h, Bool.false_and]
/-! ### records: plain texts, commands -/
def plainB (l : List Int) : Bool := l.all fun c => decide (32 ≤ c) && decide (c ≤ 126) && !decide (c = 35)
theorem plainB_cons (c : Int) (l : List Int) : plainB (c :: l) = ((decide (32 ≤ c) && decide (c ≤ 126) && !decide (c = 35)) && plainB l) := rfl
theorem toList_nil_iff (s : ByteArray) : s.toList = ([] : List UInt8) ↔ s.size = 0 := by
  rw [Go.Lib.toList_data s]
  constructor
  · intro h
    have : s.data.toList.length = 0 := by rw [h]; rfl
    simpa using this
  · intro h
    exact List.length_eq_zero_iff.1 (by simpa using h)
theorem bt_byte (s : ByteArray) (j : Nat) (h : j < s.size) : 0 ≤ bt s (j : Int) ∧ bt s (j : Int) ≤ 255 := by
  rw [← bs_get s j h]
  exact bs_byte s _ (List.getElem_mem _)
theorem wrap_bt (s : ByteArray) (j : Nat) (h : j < s.size) : wrap64 (bt s (j : Int)) = bt s (j : Int) := by
  have := bt_byte s j h
  exact wr (by omega) (by omega)
theorem l1In_some (a b c : Int) : spec_l1In.f a b c = some (decide (b ≤ a) && decide (a ≤ c)) := by
  unfold spec_l1In.f
  by_cases h : b ≤ a
  · rw [if_pos h, decide_eq_true h, Bool.true_and]
  · rw [if_neg h, decide_eq_false h, Bool.false_and]
theorem ev_l12Bytes (s : ByteArray) (m : Int) (hs : s.size ≤ 9223372036854775807) : Ev (fun k => spec_l12Bytes.f k s m) (plainB (bs s) && decide ((s.size : Int) ≤ m)) := by
  have go : ∀ (n j : Nat), j + n = s.size → Ev (fun k => spec_l12Bytes.l0 k s m (j : Int)) (plainB ((bs s).drop j) && decide ((s.size : Int) ≤ m)) := by
    intro n
    induction n with
    | zero =>
      intro j hj
      have c : ¬ (j : Int) < (s.size : Int) := by omega
      rw [bs_end s j (by omega)]
      refine Ev.step (f := fun _ => some (decide ((s.size : Int) ≤ m))) (fun k => by simp only [spec_l12Bytes.l0, c, ↓reduceIte]) ?_
      exact Ev.now _
    | succ n ih =>
      intro j hj
      have c : (j : Int) < (s.size : Int) := by omega
      have c0 : 0 ≤ (j : Int) := by omega
      have e1 := Aside0.mk (show wrap64 ((j : Int) + 1) = ((j + 1 : Nat) : Int) from wj (by omega))
      have eb := Aside0.mk (wrap_bt s j (by omega))
      rw [bs_drop s j (by omega), plainB_cons]
      by_cases h : (decide (32 ≤ bt s (j : Int)) && decide (bt s (j : Int) ≤ 126)) = true
      · by_cases h35 : bt s (j : Int) = 35
        · rw [decide_eq_true h35, Bool.not_true, Bool.and_false, Bool.false_and, Bool.false_and]
          refine Ev.step (f := fun _ => some false) (fun k => ?_) (Ev.now _)
          simp only [spec_l12Bytes.l0, c, c0, l1In_some, eb.out, h, Option.bind_some, ↓reduceIte]
          rw [if_pos h35]
        · rw [h, decide_eq_false h35, Bool.not_false, Bool.and_true, Bool.true_and]
          refine Ev.step (fun k => ?_) (ih (j + 1) (by omega))
          simp only [spec_l12Bytes.l0, c, c0, l1In_some, eb.out, h, Option.bind_some, e1.out, ↓reduceIte]
          rw [if_neg h35]
      · have h' := Bool.eq_false_iff.2 h
        rw [h', Bool.false_and, Bool.false_and, Bool.false_and]
        refine Ev.step (f := fun _ => some false) (fun k => ?_) (Ev.now _)
        simp only [spec_l12Bytes.l0, c, c0, l1In_some, eb.out, h', Option.bind_some, Bool.false_eq_true, ↓reduceIte]
  have := go s.size 0 (by omega)
  rw [List.drop_zero] at this
  exact this
theorem ev_isPlain (s : ByteArray) (hs : s.size ≤ 9223372036854775807) : Ev (fun k => impl_isPlain.f k s) (plainB (bs s)) := by
  have go : ∀ (n j : Nat), j + n = s.size → Ev (fun k => impl_isPlain.l0 k s (s.size : Int) (j : Int)) (plainB ((bs s).drop j)) := by
    intro n
    induction n with
    | zero =>
      intro j hj
      have c : ¬ (j : Int) < (s.size : Int) := by omega
      rw [bs_end s j (by omega)]
      exact Ev.step (f := fun _ => some true) (fun k => by simp only [impl_isPlain.l0, c, ↓reduceIte]) (Ev.now _)
    | succ n ih =>
      intro j hj
      have c : (j : Int) < (s.size : Int) := by omega
      have c0 : 0 ≤ (j : Int) := by omega
      have e1 := Aside0.mk (show wrap64 ((j : Int) + 1) = ((j + 1 : Nat) : Int) from wj (by omega))
      rw [bs_drop s j (by omega), plainB_cons]
      by_cases h1 : bt s (j : Int) < 32
      · rw [decide_eq_false (by omega), Bool.false_and, Bool.false_and, Bool.false_and]
        exact Ev.step (f := fun _ => some false) (fun k => by simp only [impl_isPlain.l0, c, c0, h1, ↓reduceIte]) (Ev.now _)
      · by_cases h2 : bt s (j : Int) > 126
        · rw [decide_eq_false (p := bt s (j : Int) ≤ 126) (by omega), Bool.and_false, Bool.false_and, Bool.false_and]
          exact Ev.step (f := fun _ => some false) (fun k => by simp only [impl_isPlain.l0, c, c0, h1, h2, ↓reduceIte]) (Ev.now _)
        · rw [decide_eq_true (p := 32 ≤ bt s (j : Int)) (by omega), decide_eq_true (p := bt s (j : Int) ≤ 126) (by omega), Bool.true_and]
          by_cases h35 : bt s (j : Int) = 35
          · rw [decide_eq_true h35, Bool.not_true, Bool.and_false, Bool.false_and]
            exact Ev.step (f := fun _ => some false) (fun k => by simp only [impl_isPlain.l0, c, c0, h1, h2, ↓reduceIte]; rw [if_pos h35]) (Ev.now _)
          · rw [decide_eq_false h35, Bool.not_false, Bool.and_true, Bool.true_and]
            exact Ev.step (fun k => by simp only [impl_isPlain.l0, c, c0, h1, h2, e1.out, ↓reduceIte]; rw [if_neg h35]) (ih (j + 1) (by omega))
  have := go s.size 0 (by omega)
  rw [List.drop_zero] at this
  exact this
theorem ev_l1Stands (s : ByteArray) (x : Int) (hs : s.size ≤ 9223372036854775807) : Ev (fun k => spec_l1Stands.f k s x) ((bs s).contains x) := by
  have go : ∀ (n j : Nat), j + n = s.size → Ev (fun k => spec_l1Stands.l0 k s x (j : Int)) (((bs s).drop j).contains x) := by
    intro n
    induction n with
    | zero =>
      intro j hj
      have c : ¬ (j : Int) < (s.size : Int) := by omega
      rw [bs_end s j (by omega)]
      exact Ev.step (f := fun _ => some false) (fun k => by simp only [spec_l1Stands.l0, c, ↓reduceIte]) (Ev.now _)
    | succ n ih =>
      intro j hj
      have c : (j : Int) < (s.size : Int) := by omega
      have c0 : 0 ≤ (j : Int) := by omega
      have e1 := Aside0.mk (show wrap64 ((j : Int) + 1) = ((j + 1 : Nat) : Int) from wj (by omega))
      rw [bs_drop s j (by omega), List.contains_cons]
      by_cases h : bt s (j : Int) = x
      · have hb : (x == bt s (j : Int)) = true := beq_iff_eq.2 h.symm
        rw [hb, Bool.true_or]
        exact Ev.step (f := fun _ => some true) (fun k => by simp only [spec_l1Stands.l0, c, c0, ↓reduceIte]; rw [if_pos h]) (Ev.now _)
      · have hb : (x == bt s (j : Int)) = false := beq_eq_false_iff_ne.2 (fun e => h e.symm)
        rw [hb, Bool.false_or]
        exact Ev.step (fun k => by simp only [spec_l1Stands.l0, c, c0, h, e1.out, ↓reduceIte]) (ih (j + 1) (by omega))
  have := go s.size 0 (by omega)
  rw [List.drop_zero] at this
  exact this
theorem index_contains (l : List UInt8) (c : UInt8) : decide (0 ≤ Go.Lib.indexByte l c) = (l.map fun u => (u.toNat : Int)).contains (c.toNat : Int) := by
  induction l with
  | nil => rfl
  | cons b t ih =>
    rw [List.map_cons, List.contains_cons, ← ih]
    have hge := Go.Lib.indexByte_ge t c
    have e : Go.Lib.indexByte (b :: t) c = if b == c then 0 else if Go.Lib.indexByte t c == -1 then -1 else Go.Lib.indexByte t c + 1 := rfl
    rw [e]
    by_cases h : b = c
    · subst h
      simp
    · have h1 : (b == c) = false := beq_eq_false_iff_ne.2 h
      have h2 : ((c.toNat : Int) == (b.toNat : Int)) = false := beq_eq_false_iff_ne.2 (fun e => h (UInt8.toNat_inj.1 (by omega)))
      simp only [h1, h2, Bool.false_or, Bool.false_eq_true, ↓reduceIte]
      by_cases h3 : Go.Lib.indexByte t c = -1
      · simp [h3]
      · have h4 : (Go.Lib.indexByte t c == -1) = false := beq_eq_false_iff_ne.2 h3
        simp only [h4, Bool.false_eq_true, ↓reduceIte]
        exact decide_eq_decide.2 ⟨fun _ => by omega, fun _ => by omega⟩
theorem contains_64 (s : ByteArray) : strings_Contains.f s (⟨#[64]⟩ : ByteArray) = some ((bs s).contains 64) := by
  have := index_contains s.data.toList 64
  unfold strings_Contains.f
  dsimp only
  rw [this]
  rfl
/-- Is it a record? -/
def recB (a b : ByteArray) : Bool := decide (1 ≤ (a.size : Int)) && (plainB (bs a) && decide ((a.size : Int) ≤ 160)) && !(bs a).contains 64 && (plainB (bs b) && decide ((b.size : Int) ≤ 250))
theorem ev_l12Record (a b : ByteArray) (ha : a.size ≤ 9223372036854775807) (hb : b.size ≤ 9223372036854775807) : Ev (fun k => spec_l12Record.f k a b) (recB a b) := by
  unfold spec_l12Record.f recB
  by_cases h0 : a.size = 0
  · have c := (toList_nil_iff a).2 h0
    simp only [c, ↓reduceIte]
    rw [decide_eq_false (by omega)]
    simp only [Bool.false_and]
    exact Ev.now _
  · have c : ¬ a.toList = ([] : List UInt8) := fun h => h0 ((toList_nil_iff a).1 h)
    simp only [c, ↓reduceIte]
    rw [decide_eq_true (p := 1 ≤ (a.size : Int)) (by omega), Bool.true_and]
    refine Ev.bind (ev_l12Bytes a 160 ha) ?_
    cases hp : (plainB (bs a) && decide ((a.size : Int) ≤ 160)) with
    | false =>
      simp only [Bool.false_eq_true, Bool.false_and, ↓reduceIte]
      exact Ev.now _
    | true =>
      simp only [Bool.true_and, ↓reduceIte]
      refine Ev.bind (ev_l1Stands a 64 ha) ?_
      cases hc : (bs a).contains 64 with
      | true =>
        simp only [Bool.not_true, Bool.false_and, ↓reduceIte]
        exact Ev.now _
      | false =>
        simp only [Bool.false_eq_true, Bool.not_false, Bool.true_and, ↓reduceIte]
        exact Ev.bind (ev_l12Bytes b 250 hb) (Ev.now _)
theorem ev_isCommand (a : ByteArray) (ha : a.size ≤ 9223372036854775807) : Ev (fun k => impl_isCommand.f k a) (decide (1 ≤ (a.size : Int)) && (plainB (bs a) && decide ((a.size : Int) ≤ 160)) && !(bs a).contains 64) := by
  unfold impl_isCommand.f
  by_cases h1 : (a.size : Int) ≥ 1
  · simp only [h1, ↓reduceIte]
    simp only [decide_true, Bool.true_and]
    by_cases h2 : (a.size : Int) ≤ 160
    · simp only [h2, decide_true, Bool.and_true, ↓reduceIte]
      refine Ev.bind (ev_isPlain a ha) ?_
      cases hp : plainB (bs a) with
      | false =>
        simp only [Bool.false_eq_true, Bool.false_and, ↓reduceIte]
        exact Ev.now _
      | true =>
        simp only [contains_64, Option.bind_some, Bool.true_and, ↓reduceIte]
        exact Ev.now _
    · simp only [h2, decide_false, Bool.and_false, Bool.false_and, ↓reduceIte]
      exact Ev.now _
  · simp only [h1, ↓reduceIte]
    simp only [decide_false, Bool.false_and]
    exact Ev.now _
theorem ev_IsValidRecord (a b : ByteArray) (ha : a.size ≤ 9223372036854775807) (hb : b.size ≤ 9223372036854775807) : Ev (fun k => impl_IsValidRecord.f k a b) (recB a b) := by
  unfold impl_IsValidRecord.f recB
  refine Ev.bind (ev_isCommand a ha) ?_
  cases hp : (decide (1 ≤ (a.size : Int)) && (plainB (bs a) && decide ((a.size : Int) ≤ 160)) && !(bs a).contains 64) with
  | false =>
    simp only [Bool.false_eq_true, Bool.false_and, ↓reduceIte]
    exact Ev.now _
  | true =>
    simp only [Bool.true_and, ↓reduceIte]
    by_cases h2 : (b.size : Int) ≤ 250
    · simp only [h2, decide_true, Bool.and_true, ↓reduceIte]
      exact Ev.bind (ev_isPlain b hb) (Ev.now _)
    · simp only [h2, decide_false, Bool.and_false, ↓reduceIte]
      exact Ev.now _
theorem FnExactIsValidRecord (a b : ByteArray) (ha : a.size ≤ 9223372036854775807) (hb : b.size ≤ 9223372036854775807) : ∃ k, laws_FnExactIsValidRecord.f k a b = some true := by
  refine Ev.rounds (g := fun k => laws_FnExactIsValidRecord.f k a b) ?_
  unfold laws_FnExactIsValidRecord.f
  have hz : ∃ z, laws_szLogRecord.f a b 1048576 = some z := by
    unfold laws_szLogRecord.f
    split
    · exact ⟨_, rfl⟩
    · split
      · exact ⟨_, rfl⟩
      · exact ⟨_, rfl⟩
  obtain ⟨z, hz⟩ := hz
  simp only [hz, Option.bind_some]
  by_cases h : z < 0
  · simp only [h, ↓reduceIte]
    exact Ev.now _
  · simp only [h, ↓reduceIte, laws_toLogRecord.f, Option.bind_some]
    unfold spec_IsValidRecord.f
    have h1 : Ev (fun k => (spec_l12Record.f k a b).bind fun t508 => (some t508)) (recB a b) := Ev.bind (ev_l12Record a b ha hb) (Ev.now _)
    refine Ev.bind h1 (Ev.bind (ev_IsValidRecord a b ha hb) ?_)
    simp only [bne_self_eq_false, Bool.false_eq_true, ↓reduceIte]
    exact Ev.now _

end Go.Proofs.Ytdjbimallgbioaa.Pure
