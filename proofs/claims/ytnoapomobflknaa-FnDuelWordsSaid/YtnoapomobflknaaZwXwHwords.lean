/- To how many whole words a beginning goes on by best signs: the program. -/
import Derived.Test.YtnoapomobflknaaZwXw0
import Derived.Test.YtnoapomobflknaaZwXw1
import Derived.Test.YtnoapomobflknaaZwXw2
import Derived.Test.YtnoapomobflknaaZwXwHbest
import Derived.Test.YtnoapomobflknaaZwXwHduel
namespace Go.Proofs.Ytnoapomobflknaa.Xw
open Go.RowKit Go.Proofs.YtnoapomobflknaaW.PrintWords Go.Proofs.YtnoapomobflknaaW.PrintLast Go.Proofs.YtnoapomobflknaaW.PrintMore
attribute [local go_sem] max2_int min2_int max_two min_two max_three min_three max_four min_four
set_option linter.unusedVariables false
set_option linter.unusedSimpArgs false

def wsum (G : Int → Option Int) : List Int → Int → Option Int
  | [], a => some a
  | c :: t, a => if c = 73 ∨ c = 79 then (G c).bind fun x => wsum G t (wrap64 (a + x)) else none
def dwords (k : Nat) (l : List Int) : Nat → ByteArray → Option Int
  | 0, _ => none
  | m + 1, so => (dbest k l so).bind fun s => if s.size ≤ 2 ∧ so.size ≤ 1000 then (wsum (fun c => dwords k l m (so ++ sg c)) (bytesOf s) 0).bind fun many => some (max many 1) else none
theorem wsum_le {G H : Int → Option Int} (h : ∀ c, LeO (G c) (H c)) : ∀ s b, LeO (wsum G s b) (wsum H s b)
  | [], _ => LeO.refl _
  | c :: t, b => LeO.ite (LeO.bind (h c) fun _ => wsum_le h t _) (LeO.none _)
theorem dwords_mono (k : Nat) (l : List Int) : ∀ m s, LeO (dwords k l m s) (dwords (k + 1) l m s)
  | 0, _ => LeO.none _
  | m + 1, so => LeO.bind (dbest_mono _ _ _) fun _ => LeO.ite (LeO.bind (wsum_le (fun c => dwords_mono k l m _) _ _) fun _ => LeO.refl _) (LeO.none _)
def ncost : Nat → Nat
  | 0 => 0
  | m + 1 => 20000000 + 2 * ncost m
def WordsTold (k : Nat) (l : List Int) (m : Nat) (w0 : World) (d q : Nat) (A : Option Addr) (c : Nat) : Prop :=
  ∀ (so : ByteArray) (r : Int) (n : Nat) (w : World), dwords k l m so = some r → DInv w0 w d q A c l k n → n + ncost m ≤ 1000000000000 →
    Calls Try.prog 115 #[.pointer (some ⟨d, 0, none⟩), .string so] w fun e w' => e = .returned (.int .i64 r) ∧ KeepBut w w' q none ∧ ∃ n', n' ≤ n + ncost m ∧ DInv w0 w' d q A c l k n'
theorem WordsTold.at_ {k : Nat} {l : List Int} {m : Nat} {w0 : World} {d q : Nat} {A : Option Addr} {c : Nat} (h : WordsTold k l m w0 d q A c) (so : ByteArray) (r : Int) (n : Nat) (w : World) (hv : dwords k l m so = some r) (hI : DInv w0 w d q A c l k n) (hn : n + ncost m ≤ 1000000000000) :
    Calls Try.prog 115 #[.pointer (some ⟨d, 0, none⟩), .string so] w fun e w' => e = .returned (.int .i64 r) ∧ KeepBut w w' q none ∧ ∃ n', n' ≤ n + ncost m ∧ DInv w0 w' d q A c l k n' := h so r n w hv hI hn
set_option maxHeartbeats 8000000 in
set_option maxRecDepth 100000 in
theorem words_calls (k : Nat) (l : List Int) (w0 : World) (d q : Nat) (A : Option Addr) (c : Nat) (hr0 : Kd.C (Kd.int .i64) w0 A l.length l) (hc0 : l.length ≤ c) : ∀ m, WordsTold k l m w0 d q A c := by
  intro m
  induction m with
  | zero => intro so r n w h; cases h
  | succ m ih =>
    intro so r n w h hI hn
    obtain ⟨s, hs, h⟩ := Option.bind_eq_some_iff.1 h
    have hc2 : s.size ≤ 2 ∧ so.size ≤ 1000 := by
      by_cases h0 : s.size ≤ 2 ∧ so.size ≤ 1000
      · exact h0
      · rw [if_neg h0] at h
        cases h
    rw [if_pos hc2] at h
    obtain ⟨many, hm, h⟩ := Option.bind_eq_some_iff.1 h
    obtain rfl := Option.some.inj h
    have HB := Aside0.mk (best_calls k l w0 d q A c hr0 hc0)
    have HP := Aside0.mk (show ncost (m + 1) = 20000000 + 2 * ncost m from rfl)
    have HI := Aside0.mk hI
    have HQ0 : Aside0 (q < w.heap.size) := ⟨by
      obtain ⟨D, ho, hk⟩ := hI.mp
      obtain ⟨es, cl, hh_, _⟩ := ho
      exact blk_lt hh_⟩
    have HS := Aside0.mk hs
    have HL := Aside0.mk hm
    have HC2 := Aside0.mk hc2
    have HN := Aside0.mk hn
    have IH := Aside0.mk ih
    clear hs h hm hc2 hn hI ih
    have kb := fun (s : ByteArray) (W : World) => print_bytes (P := Try.prog) 9 22 5 Try.underlying9 Try.underlying22 Try.underlying5 s W
    go_enter Try.func115, Try.ntmps115
    go_wp2_with (go_at_call 81; (refine (HB.out so s n _ HS.out HI.out (by have := HN.out; have := HP.out; omega)).mono ?_); rintro e w6 ⟨rfl, hk6, n6, hn6, hi6⟩; have HI5 := Aside0.mk hi6; have HN6 := Aside0.mk hn6; have HK5 := Aside0.mk hk6; clear hi6 hn6 hk6)
    have HI6 := Aside0.mk (HI5.out.below (bytes_below (Below.refl _ _) (Nat.le_refl _) 5 s))
    have HK6 := Aside0.mk (HK5.out.trans (KeepBut.of_below (bytes_below (Below.refl w6.heap.size w6) (Nat.le_refl _) 5 s) q none) (.inl rfl))
    have HR6 := Aside0.mk (bytes_reads w6 5 s (by have := HC2.out; omega))
    have HSZ := Aside0.mk (Lib.bytesWorld_size w6 5 s)
    have HQ6 := Aside0.mk (Nat.lt_of_lt_of_le HQ0.out HK5.out.1)
    go_loopg [5, 13] s.size (fun kq v5 v13 wr => ∃ (i : Nat) (a : Int) (n' : Nat), v5 = .int .i64 a ∧ v13 = .int .i64 (i : Int) ∧ Aside0 (i + kq = s.size) ∧ Aside0 (wsum (fun c => dwords k l m (so ++ sg c)) ((bytesOf s).drop i) a = some many) ∧ Aside0 (n' ≤ n + 20000000 + i * ncost m) ∧ Aside0 (DInv w0 wr d q A c l k n') ∧ Aside0 (KeepBut w wr q none) ∧ Aside0 (ReadsInt wr .u8 (some ⟨w6.heap.size, 0, none⟩) s.size (bytesOf s)) ∧ Aside0 (w6.heap.size < wr.heap.size))
    case atStart => exact ⟨0, 0, n6, rfl, rfl, ⟨by omega⟩, HL, ⟨by have := HN6.out; omega⟩, HI6, HK6, HR6, ⟨by rw [HSZ.out]; omega⟩⟩
    case round =>
      clear HI6 HK6 HR6 HSZ HL
      obtain ⟨i, a, n', rfl, rfl, HK, HL, HNN, HI, HKB, HR, HSZ⟩ := hrel
      by_cases hi : i < s.size
      · skip
        obtain ⟨k1, hk1⟩ : ∃ k1, gk = k1 + 1 := ⟨gk - 1, by have := HK.out; omega⟩
        subst hk1
        obtain ⟨ad, e_, hcell⟩ := ReadsInt.at_ HR.out (i : Int) (by omega) (by omega)
        injection e_ with e_
        subst e_
        rw [add_plain, Int.toNat_natCast] at hcell
        have hl := HL.out
        rw [List.drop_eq_getElem_cons (by rw [bytesOf_length]; exact hi), show (bytesOf s)[i]'(by rw [bytesOf_length]; exact hi) = rd (bytesOf s) (i : Int) by unfold rd; rw [Int.toNat_natCast]; simp [bytesOf_length, hi]] at hl
        generalize rd (bytesOf s) (i : Int) = x at hl hcell
        simp only [wsum] at hl
        by_cases hx : x = 73 ∨ x = 79
        · rw [if_pos hx] at hl
          obtain ⟨own, hg, hl⟩ := Option.bind_eq_some_iff.1 hl
          have HG := Aside0.mk hg
          have HL3 := Aside0.mk hl
          have hib : i * ncost m ≤ ncost m := by
            have : i = 0 ∨ i = 1 := by have := HC2.out; omega
            rcases this with rfl | rfl
            · rw [Nat.zero_mul]; exact Nat.zero_le _
            · rw [Nat.one_mul]; exact Nat.le_refl _
          have HNB : Aside0 (n' + ncost m ≤ 1000000000000) := ⟨by have := HNN.out; have := HN.out; have := HP.out; omega⟩
          have HSM : Aside0 (n + 20000000 + i * ncost m + ncost m = n + 20000000 + (i + 1) * ncost m) := ⟨by rw [Nat.succ_mul]; omega⟩
          have E1 := Aside0.mk (show wrap64 ((i : Int) + 1) = ((i + 1 : Nat) : Int) by have := HC2.out; unfold wrap64; omega)
          have d0 : decide (0 ≤ (i : Int)) = true := decide_eq_true (by omega)
          have HNE : Aside0 (w6.heap.size ≠ q) := ⟨by have := HQ6.out; omega⟩
          have hcat : so.size + 1 ≤ 9223372036854775807 := by have := HC2.out; omega
          clear hl hg hib HL
          have h73 : sg 73 = (⟨#[73]⟩ : ByteArray) := rfl
          have h79 : sg 79 = (⟨#[79]⟩ : ByteArray) := rfl
          rcases hx with rfl | rfl
          · have hu : Utf8.encode 73 = (⟨#[73]⟩ : ByteArray) := by decide
            have hsz : (⟨#[73]⟩ : ByteArray).size = 1 := rfl
            have HG2 : Aside0 (dwords k l m (so ++ (⟨#[73]⟩ : ByteArray)) = some own) := ⟨by have h_ := HG.out; rw [h73] at h_; exact h_⟩
            clear h73 h79
            go_wp2_with (go_at_call 115; (refine (IH.out.at_ (so ++ (⟨#[73]⟩ : ByteArray)) own n' _ HG2.out HI.out HNB.out).mono ?_); rintro e w8 ⟨rfl, hk8, n8, hn8, hi8⟩; have HI8 := Aside0.mk hi8; have HN8 := Aside0.mk hn8; have HK8 := Aside0.mk (HKB.out.trans hk8 (.inl rfl)); have HR8 := Aside0.mk (reads_keep HR.out hk8 HNE.out HSZ.out); have HZ8 := Aside0.mk (Nat.lt_of_lt_of_le HSZ.out hk8.1); clear hi8 hn8 hk8)
            go_roundg k1
            case measure => omega
            case rel => exact ⟨i + 1, wrap64 (a + own), n8, rfl, by rw [E1.out], ⟨by have := HK.out; omega⟩, HL3, ⟨by have := HN8.out; have := HNN.out; rw [← HSM.out]; omega⟩, HI8, HK8, HR8, HZ8⟩
          · have hu : Utf8.encode 79 = (⟨#[79]⟩ : ByteArray) := by decide
            have hsz : (⟨#[79]⟩ : ByteArray).size = 1 := rfl
            have HG2 : Aside0 (dwords k l m (so ++ (⟨#[79]⟩ : ByteArray)) = some own) := ⟨by have h_ := HG.out; rw [h79] at h_; exact h_⟩
            clear h73 h79
            go_wp2_with (go_at_call 115; (refine (IH.out.at_ (so ++ (⟨#[79]⟩ : ByteArray)) own n' _ HG2.out HI.out HNB.out).mono ?_); rintro e w8 ⟨rfl, hk8, n8, hn8, hi8⟩; have HI8 := Aside0.mk hi8; have HN8 := Aside0.mk hn8; have HK8 := Aside0.mk (HKB.out.trans hk8 (.inl rfl)); have HR8 := Aside0.mk (reads_keep HR.out hk8 HNE.out HSZ.out); have HZ8 := Aside0.mk (Nat.lt_of_lt_of_le HSZ.out hk8.1); clear hi8 hn8 hk8)
            go_roundg k1
            case measure => omega
            case rel => exact ⟨i + 1, wrap64 (a + own), n8, rfl, by rw [E1.out], ⟨by have := HK.out; omega⟩, HL3, ⟨by have := HN8.out; have := HNN.out; rw [← HSM.out]; omega⟩, HI8, HK8, HR8, HZ8⟩
        · rw [if_neg hx] at hl
          cases hl
      · obtain rfl : i = s.size := by have := HK.out; omega
        have hl := HL.out
        rw [List.drop_of_length_le (by rw [bytesOf_length]; exact Nat.le_refl _)] at hl
        obtain rfl := Option.some.inj hl
        have hib : s.size * ncost m ≤ 2 * ncost m := Nat.mul_le_mul_right _ HC2.out.1
        have HNF : Aside0 (n' ≤ n + ncost (m + 1)) := ⟨by have := HNN.out; have := HP.out; omega⟩
        clear hl HL hib
        go_wp2
        all_goals go_ret
        all_goals refine ⟨?_, HKB.out, n', HNF.out, HI.out⟩
        all_goals first | (show Ending.returned (.int .i64 1) = _; rw [show max a 1 = 1 by omega]) | (show Ending.returned (.int .i64 a) = _; rw [show max a 1 = a by omega])
def impl_CountBestWords.f (k : Nat) (l : List Int) (so : ByteArray) : Option (Int × Bool) := (impl_isDuel.f k l so).bind fun b => if b = true then (dwords k l 14 so).bind fun v => some (v, true) else some (0, false)
theorem impl_CountBestWords.mono : ∀ a0 a1 k, LeO (impl_CountBestWords.f k a0 a1) (impl_CountBestWords.f (k + 1) a0 a1) := fun a0 a1 k =>
  LeO.bind (impl_isDuel.mono _ _ _) fun _ => LeO.ite (LeO.bind (dwords_mono _ _ _ _) fun _ => LeO.refl _) (LeO.refl _)
set_option maxHeartbeats 8000000 in
set_option maxRecDepth 100000 in
theorem impl_CountBestWords.calls (k : Nat) (A0 : Option Addr) (c0 : Nat) (l0 : List Int) (a1 : ByteArray) (r1 : Int) (r2 : Bool) (w : World) (hr0 : Kd.C (Kd.int .i64) w A0 l0.length l0) (hc0 : l0.length ≤ c0) (h : impl_CountBestWords.f k l0 a1 = some (r1, r2)) :
    Calls Try.prog 44 #[.slice A0 l0.length c0, .string a1] w fun e w' => e = .returned (.tuple #[.int .i64 r1, .bool r2]) ∧ Below w.heap.size w w' := by
  obtain ⟨b, hb, h⟩ := Option.bind_eq_some_iff.1 h
  have HO := Aside0.mk (duelOf_calls k l0 A0 c0 a1 b w hr0 hc0 hb)
  have HV := Aside0.mk (fun q d => words_calls k l0 w d q A0 c0 hr0 hc0 14)
  cases b with
  | true =>
    rw [if_pos rfl] at h
    obtain ⟨v, hv, h⟩ := Option.bind_eq_some_iff.1 h
    have h' := Option.some.inj h
    simp only [Prod.mk.injEq] at h'
    obtain ⟨rfl, rfl⟩ := h'
    have HVV := Aside0.mk hv
    clear hb hr0 hc0 h hv
    go_enter Try.func44, Try.ntmps44
    go_wp2_with (first
      | (go_at_call 77; (with_reducible refine HO.out.mono ?_); rintro e w6 ⟨rfl, hi⟩; have HI := Aside0.mk hi; clear hi)
      | (go_at_call 115; (refine ((HV.out w.heap.size (w.heap.size + 1)).at_ a1 v 1 _ HVV.out HI.out (by decide)).mono ?_); rintro e w7 ⟨rfl, _, n', _, hi⟩; have HI7 := Aside0.mk hi; clear hi))
    go_ret2
    exact ⟨rfl, HI7.out.bel⟩
  | false =>
    rw [if_neg Bool.false_ne_true] at h
    have h' := Option.some.inj h
    simp only [Prod.mk.injEq] at h'
    obtain ⟨rfl, rfl⟩ := h'
    clear hb hr0 hc0 h HV
    go_enter Try.func44, Try.ntmps44
    go_wp2_with (go_at_call 77; (with_reducible refine HO.out.mono ?_); rintro e w6 ⟨rfl, hi⟩; have HI := Aside0.mk hi; clear hi)
    go_ret2
    exact ⟨rfl, HI.out.bel⟩

end Go.Proofs.Ytnoapomobflknaa.Xw
