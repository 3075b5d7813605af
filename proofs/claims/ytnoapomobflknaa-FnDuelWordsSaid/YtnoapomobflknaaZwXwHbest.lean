/- The program's best signs of a beginning. -/
import Derived.Test.YtnoapomobflknaaZwXw0
import Derived.Test.YtnoapomobflknaaZwXw1
import Derived.Test.YtnoapomobflknaaZwXw2
import Derived.Test.YtnoapomobflknaaZwXwHduel
namespace Go.Proofs.Ytnoapomobflknaa.Xw
open Go.RowKit Go.Proofs.YtnoapomobflknaaW.PrintWords Go.Proofs.YtnoapomobflknaaW.PrintLast Go.Proofs.YtnoapomobflknaaW.PrintMore
attribute [local go_sem] max2_int min2_int max_two min_two max_three min_three max_four min_four
set_option linter.unusedVariables false
set_option linter.unusedSimpArgs false

theorem dgain_sign {k : Nat} {l : List Int} {V : ByteArray → Option Int} {so : ByteArray} {c r : Int} (h : dgain k l V so c = some r) : c = 73 ∨ c = 79 := by
  unfold dgain at h
  split at h
  · rename_i h_; exact h_.1
  · cases h
def blp (G : Int → Option Int) (V : Option Int) : List Int → ByteArray → Option ByteArray
  | [], out => some out
  | c :: t, out => if out.size ≤ 1000 then (G c).bind fun own => V.bind fun v => blp G V t (if own = v then out ++ sg c else out) else none
def dbest (k : Nat) (l : List Int) (so : ByteArray) : Option ByteArray := (impl_nextSigns.f k (l.length : Int) so).bind fun s => if s.size ≤ 2 ∧ so.size ≤ 1000 then blp (dgain k l (dval k l 14) so) (dval k l 14 so) (bytesOf s) (⟨#[]⟩ : ByteArray) else none
theorem blp_le {G H : Int → Option Int} {V W : Option Int} (h : ∀ c, LeO (G c) (H c)) (hv : LeO V W) : ∀ s b, LeO (blp G V s b) (blp H W s b)
  | [], _ => LeO.refl _
  | c :: t, b => LeO.ite (LeO.bind (h c) fun _ => LeO.bind hv fun _ => blp_le h hv t _) (LeO.none _)
theorem dbest_mono (k : Nat) (l : List Int) (so : ByteArray) : LeO (dbest k l so) (dbest (k + 1) l so) :=
  LeO.bind (impl_nextSigns.mono _ _ _) fun _ => LeO.ite (blp_le (dgain_le (dval_mono k l 14) so) (dval_mono k l 14 so) _ _) (LeO.none _)
set_option maxHeartbeats 8000000 in
set_option maxRecDepth 100000 in
theorem best_calls (k : Nat) (l : List Int) (w0 : World) (d q : Nat) (A : Option Addr) (c : Nat) (hr0 : Kd.C (Kd.int .i64) w0 A l.length l) (hc0 : l.length ≤ c) (so r : ByteArray) (n : Nat) (w : World) (h : dbest k l so = some r) (hI : DInv w0 w d q A c l k n) (hn : n + 20000000 ≤ 1000000000000) :
    Calls Try.prog 81 #[.pointer (some ⟨d, 0, none⟩), .string so] w fun e w' => e = .returned (.string r) ∧ KeepBut w w' q none ∧ ∃ n', n' ≤ n + 20000000 ∧ DInv w0 w' d q A c l k n' := by
  obtain ⟨s, hs, h⟩ := Option.bind_eq_some_iff.1 h
  have hc2 : s.size ≤ 2 ∧ so.size ≤ 1000 := by
    by_cases h0 : s.size ≤ 2 ∧ so.size ≤ 1000
    · exact h0
    · rw [if_neg h0] at h
      cases h
  rw [if_pos hc2] at h
  have HI := Aside0.mk hI
  have HP := Aside0.mk (show 3 ^ 14 = 4782969 by decide)
  have HV := Aside0.mk (value_calls k l w0 d q A c hr0 hc0 14)
  obtain ⟨y0, y1⟩ : w.cell? ⟨d, 0, none⟩ = some (.slice A l.length c) ∧ w.cell? ⟨d, 1, none⟩ = some (.map (some q)) := by
    have hb := hI.blk
    constructor <;> simp [World.cell?, hb]
  have HQ0 : Aside0 (q < w.heap.size) := ⟨by
    obtain ⟨D, ho, hk⟩ := hI.mp
    obtain ⟨es, cl, hh_, _⟩ := ho
    exact blk_lt hh_⟩
  have HS := Aside0.mk hs
  have HL := Aside0.mk h
  have HC2 := Aside0.mk hc2
  have HN := Aside0.mk hn
  clear hs h hc2 hn hI
  have kb := fun (s : ByteArray) (W : World) => print_bytes (P := Try.prog) 9 22 5 Try.underlying9 Try.underlying22 Try.underlying5 s W
  go_enter Try.func81, Try.ntmps81
  go_wp2_with (go_at_call 86; (with_reducible refine (impl_nextSigns.calls k (l.length : Int) so s _ HS.out).mono ?_); rintro e w6 ⟨rfl, hb⟩; have HB6 := Aside0.mk hb; clear hb)
  have HI6 := Aside0.mk ((HI.out.below HB6.out).below (bytes_below (Below.refl _ _) (Nat.le_refl _) 5 s))
  have HK6 := Aside0.mk ((KeepBut.of_below HB6.out q none).trans (KeepBut.of_below (bytes_below (Below.refl w6.heap.size w6) (Nat.le_refl _) 5 s) q none) (.inl rfl))
  have HR6 := Aside0.mk (bytes_reads w6 5 s (by have := HC2.out; omega))
  have HSZ := Aside0.mk (Lib.bytesWorld_size w6 5 s)
  go_loopg [5, 17] s.size (fun kq v5 v17 wr => ∃ (i : Nat) (out : ByteArray) (n' : Nat), v5 = .string out ∧ v17 = .int .i64 (i : Int) ∧ Aside0 (i + kq = s.size) ∧ Aside0 (blp (dgain k l (dval k l 14) so) (dval k l 14 so) ((bytesOf s).drop i) out = some r) ∧ Aside0 (n' ≤ n + i * 9565938) ∧ Aside0 (DInv w0 wr d q A c l k n') ∧ Aside0 (KeepBut w wr q none) ∧ Aside0 (ReadsInt wr .u8 (some ⟨w6.heap.size, 0, none⟩) s.size (bytesOf s)) ∧ Aside0 (w6.heap.size < wr.heap.size))
  case atStart => exact ⟨0, ⟨#[]⟩, n, rfl, rfl, ⟨by omega⟩, HL, ⟨by omega⟩, HI6, HK6, HR6, ⟨by rw [HSZ.out]; omega⟩⟩
  case round =>
    clear HI6 HK6 HR6 HSZ HL
    obtain ⟨i, out, n', rfl, rfl, HK, HL, HNN, HI, HKB, HR, HSZ⟩ := hrel
    have HQ6 := Aside0.mk (Nat.lt_of_lt_of_le HQ0.out HB6.out.size)
    clear y0 y1
    by_cases hi : i < s.size
    · obtain ⟨k1, hk1⟩ : ∃ k1, gk = k1 + 1 := ⟨gk - 1, by have := HK.out; omega⟩
      subst hk1
      obtain ⟨ad, e_, hcell⟩ := ReadsInt.at_ HR.out (i : Int) (by omega) (by omega)
      injection e_ with e_
      subst e_
      rw [add_plain, Int.toNat_natCast] at hcell
      have hl := HL.out
      rw [List.drop_eq_getElem_cons (by rw [bytesOf_length]; exact hi), show (bytesOf s)[i]'(by rw [bytesOf_length]; exact hi) = rd (bytesOf s) (i : Int) by unfold rd; rw [Int.toNat_natCast]; simp [bytesOf_length, hi]] at hl
      generalize rd (bytesOf s) (i : Int) = x at hl hcell
      simp only [blp] at hl
      by_cases ho : out.size ≤ 1000
      · rw [if_pos ho] at hl
        obtain ⟨own, hg, hl⟩ := Option.bind_eq_some_iff.1 hl
        obtain ⟨v, hv, hl⟩ := Option.bind_eq_some_iff.1 hl
        have hx := dgain_sign hg
        have HG := Aside0.mk hg
        have HVV := Aside0.mk hv
        have HL2 := Aside0.mk hl
        have HNB : Aside0 (n' + 3 ^ 14 ≤ 1000000000000) := ⟨by have := HNN.out; have := HN.out; have := HC2.out; have := HP.out; omega⟩
        have E1 := Aside0.mk (show wrap64 ((i : Int) + 1) = ((i + 1 : Nat) : Int) by have := HC2.out; unfold wrap64; omega)
        have d0 : decide (0 ≤ (i : Int)) = true := decide_eq_true (by omega)
        have HNE : Aside0 (w6.heap.size ≠ q) := ⟨by have := HQ6.out; omega⟩
        have hcat : out.size + 1 ≤ 9223372036854775807 := by omega
        clear hl hg hv HL ho
        have h73 : sg 73 = (⟨#[73]⟩ : ByteArray) := rfl
        have h79 : sg 79 = (⟨#[79]⟩ : ByteArray) := rfl
        by_cases hov : own = v
        · have hb0 : (own == v) = true := beq_iff_eq.2 hov
          have HL3 : Aside0 (blp (dgain k l (dval k l 14) so) (dval k l 14 so) ((bytesOf s).drop (i + 1)) (out ++ sg x) = some r) := ⟨by have h_ := HL2.out; rw [if_pos hov] at h_; exact h_⟩
          clear HL2 hov
          rcases hx with rfl | rfl
          · have hu : Utf8.encode 73 = (⟨#[73]⟩ : ByteArray) := by decide
            have hsz : (⟨#[73]⟩ : ByteArray).size = 1 := rfl
            rw [h73] at HL3
            clear h73 h79
            go_wp2_with (first
              | (go_at_call 87; (refine (gain_calls k l 14 w0 d q A c hr0 hc0 HV.out so 73 own n' _ HG.out HI.out HNB.out).mono ?_); rintro e w8 ⟨rfl, hk8, n8, hn8, hi8⟩; have HI8 := Aside0.mk hi8; have HN8 := Aside0.mk hn8; have HK8 := Aside0.mk (HKB.out.trans hk8 (.inl rfl)); have HR8 := Aside0.mk (reads_keep HR.out hk8 HNE.out HSZ.out); have HZ8 := Aside0.mk (Nat.lt_of_lt_of_le HSZ.out hk8.1); clear hi8 hn8 hk8)
              | (go_at_call 78; (refine (HV.out.at_ so v n8 _ HVV.out HI8.out (by have h1 := HN8.out; have h2 := HNN.out; have h3 := HN.out; have := HC2.out; have := HP.out; omega)).mono ?_); rintro e w9 ⟨rfl, hk9, n9, hn9, hi9⟩; have HI9 := Aside0.mk hi9; have HN9 := Aside0.mk hn9; have HK9 := Aside0.mk (HK8.out.trans hk9 (.inl rfl)); have HR9 := Aside0.mk (reads_keep HR8.out hk9 HNE.out HZ8.out); have HZ9 := Aside0.mk (Nat.lt_of_lt_of_le HZ8.out hk9.1); clear hi9 hn9 hk9))
            go_roundg k1
            case measure => omega
            case rel => exact ⟨i + 1, out ++ ⟨#[73]⟩, n9, rfl, by rw [E1.out], ⟨by have := HK.out; omega⟩, HL3, ⟨by have h1 := HN9.out; have h2 := HNN.out; have h3 := HN8.out; have := HP.out; omega⟩, HI9, HK9, HR9, HZ9⟩
          · have hu : Utf8.encode 79 = (⟨#[79]⟩ : ByteArray) := by decide
            have hsz : (⟨#[79]⟩ : ByteArray).size = 1 := rfl
            rw [h79] at HL3
            clear h73 h79
            go_wp2_with (first
              | (go_at_call 87; (refine (gain_calls k l 14 w0 d q A c hr0 hc0 HV.out so 79 own n' _ HG.out HI.out HNB.out).mono ?_); rintro e w8 ⟨rfl, hk8, n8, hn8, hi8⟩; have HI8 := Aside0.mk hi8; have HN8 := Aside0.mk hn8; have HK8 := Aside0.mk (HKB.out.trans hk8 (.inl rfl)); have HR8 := Aside0.mk (reads_keep HR.out hk8 HNE.out HSZ.out); have HZ8 := Aside0.mk (Nat.lt_of_lt_of_le HSZ.out hk8.1); clear hi8 hn8 hk8)
              | (go_at_call 78; (refine (HV.out.at_ so v n8 _ HVV.out HI8.out (by have h1 := HN8.out; have h2 := HNN.out; have h3 := HN.out; have := HC2.out; have := HP.out; omega)).mono ?_); rintro e w9 ⟨rfl, hk9, n9, hn9, hi9⟩; have HI9 := Aside0.mk hi9; have HN9 := Aside0.mk hn9; have HK9 := Aside0.mk (HK8.out.trans hk9 (.inl rfl)); have HR9 := Aside0.mk (reads_keep HR8.out hk9 HNE.out HZ8.out); have HZ9 := Aside0.mk (Nat.lt_of_lt_of_le HZ8.out hk9.1); clear hi9 hn9 hk9))
            go_roundg k1
            case measure => omega
            case rel => exact ⟨i + 1, out ++ ⟨#[79]⟩, n9, rfl, by rw [E1.out], ⟨by have := HK.out; omega⟩, HL3, ⟨by have h1 := HN9.out; have h2 := HNN.out; have h3 := HN8.out; have := HP.out; omega⟩, HI9, HK9, HR9, HZ9⟩
        · have hb0 : (own == v) = false := beq_eq_false_iff_ne.2 hov
          have HL3 : Aside0 (blp (dgain k l (dval k l 14) so) (dval k l 14 so) ((bytesOf s).drop (i + 1)) out = some r) := ⟨by have h_ := HL2.out; rw [if_neg hov] at h_; exact h_⟩
          clear HL2 hov h73 h79
          go_wp2_with (first
              | (go_at_call 87; (refine (gain_calls k l 14 w0 d q A c hr0 hc0 HV.out so x own n' _ HG.out HI.out HNB.out).mono ?_); rintro e w8 ⟨rfl, hk8, n8, hn8, hi8⟩; have HI8 := Aside0.mk hi8; have HN8 := Aside0.mk hn8; have HK8 := Aside0.mk (HKB.out.trans hk8 (.inl rfl)); have HR8 := Aside0.mk (reads_keep HR.out hk8 HNE.out HSZ.out); have HZ8 := Aside0.mk (Nat.lt_of_lt_of_le HSZ.out hk8.1); clear hi8 hn8 hk8)
              | (go_at_call 78; (refine (HV.out.at_ so v n8 _ HVV.out HI8.out (by have h1 := HN8.out; have h2 := HNN.out; have h3 := HN.out; have := HC2.out; have := HP.out; omega)).mono ?_); rintro e w9 ⟨rfl, hk9, n9, hn9, hi9⟩; have HI9 := Aside0.mk hi9; have HN9 := Aside0.mk hn9; have HK9 := Aside0.mk (HK8.out.trans hk9 (.inl rfl)); have HR9 := Aside0.mk (reads_keep HR8.out hk9 HNE.out HZ8.out); have HZ9 := Aside0.mk (Nat.lt_of_lt_of_le HZ8.out hk9.1); clear hi9 hn9 hk9))
          go_roundg k1
          case measure => omega
          case rel => exact ⟨i + 1, out, n9, rfl, by rw [E1.out], ⟨by have := HK.out; omega⟩, HL3, ⟨by have h1 := HN9.out; have h2 := HNN.out; have h3 := HN8.out; have := HP.out; omega⟩, HI9, HK9, HR9, HZ9⟩
      · rw [if_neg ho] at hl
        cases hl
    · obtain rfl : i = s.size := by have := HK.out; omega
      have hl := HL.out
      rw [List.drop_of_length_le (by rw [bytesOf_length]; exact Nat.le_refl _)] at hl
      obtain rfl := Option.some.inj hl
      clear hl HL
      go_wp2
      go_ret
      exact ⟨rfl, HKB.out, n', by have := HNN.out; have := HC2.out; omega, HI.out⟩
def impl_BestSigns.f (k : Nat) (l : List Int) (so : ByteArray) : Option (ByteArray × Bool) := (impl_isDuel.f k l so).bind fun b => if b = true then (dbest k l so).bind fun v => some (v, true) else some (⟨#[]⟩, false)
theorem impl_BestSigns.mono : ∀ a0 a1 k, LeO (impl_BestSigns.f k a0 a1) (impl_BestSigns.f (k + 1) a0 a1) := fun a0 a1 k =>
  LeO.bind (impl_isDuel.mono _ _ _) fun _ => LeO.ite (LeO.bind (dbest_mono _ _ _) fun _ => LeO.refl _) (LeO.refl _)
set_option maxHeartbeats 8000000 in
set_option maxRecDepth 100000 in
theorem impl_BestSigns.calls (k : Nat) (A0 : Option Addr) (c0 : Nat) (l0 : List Int) (a1 : ByteArray) (r1 : ByteArray) (r2 : Bool) (w : World) (hr0 : Kd.C (Kd.int .i64) w A0 l0.length l0) (hc0 : l0.length ≤ c0) (h : impl_BestSigns.f k l0 a1 = some (r1, r2)) :
    Calls Try.prog 11 #[.slice A0 l0.length c0, .string a1] w fun e w' => e = .returned (.tuple #[.string r1, .bool r2]) ∧ Below w.heap.size w w' := by
  obtain ⟨b, hb, h⟩ := Option.bind_eq_some_iff.1 h
  have HO := Aside0.mk (duelOf_calls k l0 A0 c0 a1 b w hr0 hc0 hb)
  have HV := Aside0.mk (fun q d => best_calls k l0 w d q A0 c0 hr0 hc0)
  cases b with
  | true =>
    rw [if_pos rfl] at h
    obtain ⟨v, hv, h⟩ := Option.bind_eq_some_iff.1 h
    have h' := Option.some.inj h
    simp only [Prod.mk.injEq] at h'
    obtain ⟨rfl, rfl⟩ := h'
    have HVV := Aside0.mk hv
    clear hb hr0 hc0 h hv
    go_enter Try.func11, Try.ntmps11
    go_wp2_with (first
      | (go_at_call 77; (with_reducible refine HO.out.mono ?_); rintro e w6 ⟨rfl, hi⟩; have HI := Aside0.mk hi; clear hi)
      | (go_at_call 81; (refine (HV.out w.heap.size (w.heap.size + 1) a1 v 1 _ HVV.out HI.out (by decide)).mono ?_); rintro e w7 ⟨rfl, _, n', _, hi⟩; have HI7 := Aside0.mk hi; clear hi))
    go_ret2
    exact ⟨rfl, HI7.out.bel⟩
  | false =>
    rw [if_neg Bool.false_ne_true] at h
    have h' := Option.some.inj h
    simp only [Prod.mk.injEq] at h'
    obtain ⟨rfl, rfl⟩ := h'
    clear hb hr0 hc0 h HV
    go_enter Try.func11, Try.ntmps11
    go_wp2_with (go_at_call 77; (with_reducible refine HO.out.mono ?_); rintro e w6 ⟨rfl, hi⟩; have HI := Aside0.mk hi; clear hi)
    go_ret2
    exact ⟨rfl, HI.out.bel⟩

end Go.Proofs.Ytnoapomobflknaa.Xw
