/- Plain words on lists, bytes and whole numbers, and on what the printed loops of every law share; no program in sight. -/
import Derived.Test.YteccmfcmkghbgaaZqW
set_option linter.unusedSimpArgs false
set_option linter.unusedVariables false
namespace Go.Proofs.Yteccmfcmkghbgaa.Pk
open Go.RowKit Go.Proofs.YteccmfcmkghbgaaW.PrintWords

theorem wr {i : Int} (h0 : -9223372036854775808 ≤ i) (h1 : i ≤ 9223372036854775807) : wrap64 i = i := by unfold wrap64; omega
theorem wj {j : Nat} (h : j < 9223372036854775807) : wrap64 ((j : Int) + 1) = ((j + 1 : Nat) : Int) := by unfold wrap64; omega

theorem bind_of {α β : Type} {g : Option α} {f : α → Option β} {a : α} {r : Option β} (h : g = some a) (k : f a = r) : g.bind f = r := by
  rw [h]
  exact k
/-- A string's bytes as numbers. -/
def bs (s : ByteArray) : List Int := s.data.toList.map fun c => (c.toNat : Int)
theorem bs_length (s : ByteArray) : (bs s).length = s.size := by simp [bs]
theorem bs_append (s t : ByteArray) : bs (s ++ t) = bs s ++ bs t := by simp [bs]
theorem size_append (s t : ByteArray) : (s ++ t).size = s.size + t.size := by rw [← bs_length, bs_append, List.length_append, bs_length, bs_length]
theorem bs_get (s : ByteArray) (j : Nat) (h : j < s.size) : (bs s)[j]'(by rw [bs_length]; exact h) = bt s (j : Int) := by
  have h' : ((j : Int)).toNat < s.size := by omega
  unfold bt
  rw [dif_pos h']
  simp [bs]
  rfl
theorem bs_drop (s : ByteArray) (j : Nat) (h : j < s.size) : (bs s).drop j = bt s (j : Int) :: (bs s).drop (j + 1) := by
  rw [← bs_get s j h]
  exact List.drop_eq_getElem_cons (by rw [bs_length]; exact h)
theorem bs_end (s : ByteArray) (j : Nat) (h : s.size ≤ j) : (bs s).drop j = [] := List.drop_of_length_le (by rw [bs_length]; exact h)
theorem bs_byte (s : ByteArray) : ∀ c ∈ bs s, 0 ≤ c ∧ c ≤ 255 := by
  intro c hc
  obtain ⟨u, _, rfl⟩ := List.mem_map.1 hc
  have := u.toNat_lt
  omega
theorem bs_inj {s t : ByteArray} (h : bs s = bs t) : s = t := by
  have : s.data.toList = t.data.toList := by
    refine List.map_inj_right (f := fun c : UInt8 => (c.toNat : Int)) ?_ |>.1 h
    intro x y e
    exact UInt8.toNat_inj.1 (by omega)
  have : s.data = t.data := Array.toList_inj.1 this
  cases s; cases t; simp_all

theorem rd_nat (l : List Int) (j : Nat) : rd l (j : Int) = l.getD j 0 := by unfold rd; rw [Int.toNat_natCast]
theorem rd_get (l : List Int) (j : Nat) (h : j < l.length) : rd l (j : Int) = l[j] := by rw [rd_nat]; simp [h]
theorem rd_drop (l : List Int) (j : Nat) (h : j < l.length) : l.drop j = rd l (j : Int) :: l.drop (j + 1) := by
  rw [rd_get l j h]
  exact List.drop_eq_getElem_cons h
theorem take_succ (l : List Int) (j : Nat) (h : j < l.length) : l.take (j + 1) = l.take j ++ [rd l (j : Int)] := by
  rw [rd_get l j h]
  exact (List.take_append_getElem h).symm
/-- A copy made place by place. -/
theorem set_copy (l : List Int) (j : Nat) (h : j < l.length) : (l.take j ++ List.replicate (l.length - j) 0).set j (rd l (j : Int)) = l.take (j + 1) ++ List.replicate (l.length - (j + 1)) 0 := by
  have hr : List.replicate (l.length - j) (0 : Int) = 0 :: List.replicate (l.length - (j + 1)) 0 := by
    rw [show l.length - j = (l.length - (j + 1)) + 1 by omega, List.replicate_succ]
  rw [hr, take_succ l j h, List.append_assoc, List.set_append_right _ _ (by simp; omega)]
  simp [Nat.min_eq_left (Nat.le_of_lt h)]

theorem snoc_cases {α : Type} (l : List α) : l = [] ∨ ∃ (m : List α) (x : α), l = m ++ [x] := by
  rcases List.eq_nil_or_concat l with h | ⟨m, x, h⟩
  · exact .inl h
  · exact .inr ⟨m, x, by rw [h, List.concat_eq_append]⟩

/-- So many numbers in sequence, from k on. -/
def iota (k : Int) (n : Nat) : List Int := (List.range n).map fun i : Nat => k + (i : Int)
theorem iota_length (k : Int) (n : Nat) : (iota k n).length = n := by simp [iota]
theorem iota_succ (k : Int) (n : Nat) : iota k (n + 1) = iota k n ++ [k + (n : Int)] := by simp [iota, List.range_succ]
theorem rd_iota (k : Int) (n j : Nat) (h : j < n) : rd (iota k n) (j : Int) = k + (j : Int) := by
  rw [rd_get _ _ (by rw [iota_length]; exact h)]
  simp [iota]
theorem set_iota (k : Int) (l : List Int) (j : Nat) (h : j < l.length) : (iota k j ++ l.drop j).set j (k + (j : Int)) = iota k (j + 1) ++ l.drop (j + 1) := by
  rw [rd_drop l j h, List.set_append_right _ _ (by rw [iota_length]; exact Nat.le_refl _), iota_length, Nat.sub_self, List.set_cons_zero, iota_succ, List.append_assoc]
  rfl
theorem set_self (l : List Int) (j : Nat) (h : j < l.length) : l.set j (rd l (j : Int)) = l := by
  rw [rd_get l j h]
  exact List.set_getElem_self h

/-! ### orders -/
def chk (n : Int) : List Int → List Int → Bool
  | _, [] => true
  | pre, x :: t => decide (1 ≤ x) && decide (x ≤ n) && !pre.contains x && chk n (pre ++ [x]) t
/-- Is a list an order? -/
def ordB (l : List Int) : Bool := decide (1 ≤ l.length) && decide (l.length ≤ 7) && chk l.length [] l
theorem ordB_len {l : List Int} (h : ordB l = true) : 1 ≤ l.length ∧ l.length ≤ 7 := by
  unfold ordB at h
  simp only [Bool.and_eq_true, decide_eq_true_eq] at h
  exact h.1
theorem chk_spec (n : Int) : ∀ (l pre : List Int), chk n pre l = true → (∀ x ∈ l, 1 ≤ x ∧ x ≤ n) ∧ l.Nodup ∧ ∀ x ∈ l, x ∉ pre
  | [], _, _ => ⟨by simp, List.nodup_nil, by simp⟩
  | x :: t, pre, h => by
    simp only [chk, Bool.and_eq_true, decide_eq_true_eq, Bool.not_eq_true', List.contains_eq_mem, decide_eq_false_iff_not] at h
    obtain ⟨⟨⟨h1, h2⟩, h3⟩, h4⟩ := h
    obtain ⟨a, b, c⟩ := chk_spec n t (pre ++ [x]) h4
    refine ⟨?_, ?_, ?_⟩
    · intro y hy
      rcases List.mem_cons.1 hy with rfl | hy
      · exact ⟨h1, h2⟩
      · exact a y hy
    · exact List.nodup_cons.2 ⟨fun hx => c x hx (by simp), b⟩
    · intro y hy
      rcases List.mem_cons.1 hy with rfl | hy
      · exact h3
      · exact fun hp => c y hy (by simp [hp])
theorem ordB_range {l : List Int} (h : ordB l = true) : ∀ x ∈ l, 1 ≤ x ∧ x ≤ l.length := by
  unfold ordB at h
  simp only [Bool.and_eq_true, decide_eq_true_eq] at h
  exact (chk_spec _ _ _ h.2).1
theorem ordB_nodup {l : List Int} (h : ordB l = true) : l.Nodup := by
  unfold ordB at h
  simp only [Bool.and_eq_true, decide_eq_true_eq] at h
  exact (chk_spec _ _ _ h.2).2.1

/-! ### beginnings of words: I = 73, O = 79 -/
/-- Behind signs, from p pushes and q pops on: how many there are, if it is the beginning of a word for n numbers. -/
def beg (n : Int) : List Int → Int → Int → Option (Int × Int)
  | [], p, q => some (p, q)
  | c :: t, p, q => if c = 73 then (if p < n then beg n t (p + 1) q else none) else if c = 79 then (if q < p then beg n t p (q + 1) else none) else none
theorem beg_bounds (n : Int) : ∀ (l : List Int) (p q p' q' : Int), q ≤ p → p ≤ n → beg n l p q = some (p', q') → q' ≤ p' ∧ p' ≤ n ∧ p ≤ p' ∧ q ≤ q' ∧ p' + q' = p + q + l.length
  | [], p, q, p', q', h1, h2, h => by
    simp only [beg, Option.some.injEq, Prod.mk.injEq] at h
    obtain ⟨rfl, rfl⟩ := h
    simp
    omega
  | c :: t, p, q, p', q', h1, h2, h => by
    simp only [beg] at h
    split at h
    · split at h
      · have := beg_bounds n t (p + 1) q p' q' (by omega) (by omega) h
        simp only [List.length_cons]
        omega
      · cases h
    · split at h
      · split at h
        · have := beg_bounds n t p (q + 1) p' q' (by omega) (by omega) h
          simp only [List.length_cons]
          omega
        · cases h
      · cases h
theorem beg_append (n : Int) (m : List Int) : ∀ (l : List Int) (p q : Int), beg n (l ++ m) p q = (beg n l p q).bind fun r => beg n m r.1 r.2
  | [], p, q => by simp [beg]
  | c :: t, p, q => by
    simp only [List.cons_append, beg]
    split
    · split
      · exact beg_append n m t _ _
      · rfl
    · split
      · split
        · exact beg_append n m t _ _
        · rfl
      · rfl
/-- The stack behind signs (the one on top last), and what the last of them popped, 0 if it did not. -/
def stk : List Int → List Int → List Int → Int → List Int × Int
  | [], _, st, pd => (st, pd)
  | c :: t, rest, st, pd => if c = 73 then stk t rest.tail (st ++ [rest.headD 0]) 0 else stk t rest st.dropLast (st.getLastD 0)
theorem stk_len : ∀ (s rest st : List Int) (pd : Int), (stk s rest st pd).1.length ≤ st.length + s.length
  | [], _, st, _ => by simp [stk]
  | c :: t, rest, st, pd => by
    simp only [stk]
    split
    · have := stk_len t rest.tail (st ++ [rest.headD 0]) 0
      simp only [List.length_append, List.length_nil, List.length_cons] at this ⊢
      omega
    · have := stk_len t rest st.dropLast (st.getLastD 0)
      simp only [List.length_dropLast, List.length_cons] at this ⊢
      omega
end Go.Proofs.Yteccmfcmkghbgaa.Pk
