/- The program's worst sign of a beginning. -/
import Derived.Test.YtnoapomobflknaaZdXd0
import Derived.Test.YtnoapomobflknaaZdXd5
import Derived.Test.YtnoapomobflknaaZdXd6
import Derived.Test.YtnoapomobflknaaZdXdHbest
import Derived.Test.YtnoapomobflknaaZdXdHduel
namespace Go.Proofs.Ytnoapomobflknaa.Xd
open Go.RowKit Go.Proofs.YtnoapomobflknaaW.PrintWords Go.Proofs.YtnoapomobflknaaW.PrintLast Go.Proofs.YtnoapomobflknaaW.PrintMore
attribute [local go_sem] max2_int min2_int max_two min_two max_three min_three max_four min_four
set_option linter.unusedVariables false
set_option linter.unusedSimpArgs false

def wlp (G : Int → Option Int) : List Int → ByteArray → Int → Option (ByteArray × Int)
  | [], worst, least => some (worst, least)
  | c :: t, worst, least => (G c).bind fun own => if worst.toList = ([] : List UInt8) ∨ own < least then wlp G t (sg c) own else wlp G t worst least
def impl_WorstSign.f (k : Nat) (l : List Int) (so : ByteArray) : Option (ByteArray × Int × Bool) := (impl_isDuel.f k l so).bind fun b => if b = true then (if (so.size : Int) = wrap64 (2 * (l.length : Int)) then some (⟨#[]⟩, 0, false) else (impl_nextSigns.f k (l.length : Int) so).bind fun s => if s.size ≤ 2 ∧ so.size ≤ 1000 then (wlp (dgain k l (dval k l 14) so) (bytesOf s) ⟨#[]⟩ 0).bind fun r => (dval k l 14 so).bind fun v => some (r.1, wrap64 (v - r.2), true) else none) else some (⟨#[]⟩, 0, false)
theorem wlp_le {G H : Int → Option Int} (h : ∀ c, LeO (G c) (H c)) : ∀ s b e, LeO (wlp G s b e) (wlp H s b e)
  | [], _, _ => LeO.refl _
  | c :: t, b, e => LeO.bind (h c) fun _ => LeO.ite (wlp_le h t _ _) (wlp_le h t _ _)
theorem impl_WorstSign.mono : ∀ a0 a1 k, LeO (impl_WorstSign.f k a0 a1) (impl_WorstSign.f (k + 1) a0 a1) := fun a0 a1 k =>
  LeO.bind (impl_isDuel.mono _ _ _) fun _ => LeO.ite (LeO.ite (LeO.refl _) (LeO.bind (impl_nextSigns.mono _ _ _) fun _ => LeO.ite (LeO.bind (wlp_le (dgain_le (dval_mono k a0 14) a1) _ _ _) fun _ => LeO.bind (dval_mono k a0 14 a1) fun _ => LeO.refl _) (LeO.none _))) (LeO.refl _)
set_option maxHeartbeats 8000000 in
set_option maxRecDepth 100000 in
theorem impl_WorstSign.calls (k : Nat) (A : Option Addr) (c : Nat) (l : List Int) (so : ByteArray) (r1 : ByteArray) (r2 : Int) (r3 : Bool) (w0 : World) (hr0 : Kd.C (Kd.int .i64) w0 A l.length l) (hc0 : l.length ≤ c) (h : impl_WorstSign.f k l so = some (r1, r2, r3)) :
    Calls Try.prog 16 #[.slice A l.length c, .string so] w0 fun e w' => e = .returned (.tuple #[.string r1, .int .i64 r2, .bool r3]) ∧ Below w0.heap.size w0 w' := by
  obtain ⟨b, hb, h⟩ := Option.bind_eq_some_iff.1 h
  have HO := Aside0.mk (duelOf_calls k l A c so b w0 hr0 hc0 hb)
  have HV := Aside0.mk (value_calls k l w0 (w0.heap.size + 1) w0.heap.size A c hr0 hc0 14)
  replace hr0 := Aside0.mk hr0
  replace hc0 := Aside0.mk hc0
  clear hb
  cases b with
  | false =>
    rw [if_neg Bool.false_ne_true] at h
    have h' := Option.some.inj h
    simp only [Prod.mk.injEq] at h'
    obtain ⟨rfl, rfl, rfl⟩ := h'
    clear h HV
    go_enter Try.func16, Try.ntmps16
    go_wp2_with (go_at_call 77; (with_reducible refine HO.out.mono ?_); rintro e w6 ⟨rfl, hi⟩; have HI := Aside0.mk hi; clear hi)
    go_ret3
    exact ⟨rfl, HI.out.bel⟩
  | true =>
    rw [if_pos rfl] at h
    obtain ⟨ji, hji⟩ : ∃ ji : Int, wrap64 (2 * (l.length : Int)) = ji := ⟨_, rfl⟩
    rw [hji] at h
    have hjiw : IntKind.i64.wrap (2 * (l.length : Int)) = ji := (i64_w _).trans hji
    by_cases hend : (so.size : Int) = ji
    · rw [if_pos hend] at h
      have h' := Option.some.inj h
      simp only [Prod.mk.injEq] at h'
      obtain ⟨rfl, rfl, rfl⟩ := h'
      have hend2 : ((so.size : Int) == ji) = true := beq_iff_eq.2 hend
      clear h HV hend
      go_enter Try.func16, Try.ntmps16
      go_wp2_with (go_at_call 77; (with_reducible refine HO.out.mono ?_); rintro e w6 ⟨rfl, hi⟩; have HI := Aside0.mk hi; clear hi)
      go_ret3
      exact ⟨rfl, HI.out.bel⟩
    rw [if_neg hend] at h
    have hend2 : ((so.size : Int) == ji) = false := beq_eq_false_iff_ne.2 hend
    clear hend
    obtain ⟨s, hs, h⟩ := Option.bind_eq_some_iff.1 h
    have hc2 : s.size ≤ 2 ∧ so.size ≤ 1000 := by
      by_cases h0 : s.size ≤ 2 ∧ so.size ≤ 1000
      · exact h0
      · rw [if_neg h0] at h
        cases h
    rw [if_pos hc2] at h
    obtain ⟨⟨g1, g2⟩, hg, h⟩ := Option.bind_eq_some_iff.1 h
    obtain ⟨v, hv, h⟩ := Option.bind_eq_some_iff.1 h
    have h' := Option.some.inj h
    simp only [Prod.mk.injEq] at h'
    obtain ⟨rfl, rfl, rfl⟩ := h'
    have HP := Aside0.mk (show 3 ^ 14 = 4782969 by decide)
    have HS := Aside0.mk hs
    have HL := Aside0.mk hg
    have HVV := Aside0.mk hv
    have HC2 := Aside0.mk hc2
    clear hs h hc2 hg hv
    have kb := fun (s : ByteArray) (W : World) => print_bytes (P := Try.prog) 9 22 5 Try.underlying9 Try.underlying22 Try.underlying5 s W
    go_enter Try.func16, Try.ntmps16
    go_wp2_with (first
      | (go_at_call 77; (with_reducible refine HO.out.mono ?_); rintro e w5 ⟨rfl, hi⟩; have HI5 := Aside0.mk hi; clear hi)
      | (go_at_call 86; (with_reducible refine (impl_nextSigns.calls k (l.length : Int) so s _ HS.out).mono ?_); rintro e w6 ⟨rfl, hb⟩; have HB6 := Aside0.mk hb; clear hb))
    have HI6 := Aside0.mk ((HI5.out.below HB6.out).below (bytes_below (Below.refl _ _) (Nat.le_refl _) 5 s))
    have HQ6 : Aside0 (w0.heap.size < w6.heap.size) := ⟨by
      obtain ⟨D, ho, hk⟩ := HI5.out.mp
      obtain ⟨es, cl, hh_, _⟩ := ho
      exact Nat.lt_of_lt_of_le (blk_lt hh_) HB6.out.size⟩
    have HR6 := Aside0.mk (bytes_reads w6 5 s (by have := HC2.out; omega))
    have HSZ := Aside0.mk (Lib.bytesWorld_size w6 5 s)
    go_loopg [9, 10, 36] s.size (fun kq v9 v10 v36 wr => ∃ (i : Nat) (worst : ByteArray) (least : Int) (n' : Nat), v9 = .string worst ∧ v10 = .int .i64 least ∧ v36 = .int .i64 (i : Int) ∧ Aside0 (i + kq = s.size) ∧ Aside0 (wlp (dgain k l (dval k l 14) so) ((bytesOf s).drop i) worst least = some (g1, g2)) ∧ Aside0 (n' ≤ 1 + i * 4782969) ∧ Aside0 (DInv w0 wr (w0.heap.size + 1) w0.heap.size A c l k n') ∧ Aside0 (ReadsInt wr .u8 (some ⟨w6.heap.size, 0, none⟩) s.size (bytesOf s)) ∧ Aside0 (w6.heap.size < wr.heap.size))
    case atStart => exact ⟨0, ⟨#[]⟩, 0, 1, rfl, rfl, rfl, ⟨by omega⟩, HL, ⟨by omega⟩, HI6, HR6, ⟨by rw [HSZ.out]; omega⟩⟩
    case round =>
      clear HI6 HR6 HSZ HL
      obtain ⟨i, worst, least, n', rfl, rfl, rfl, HK, HL, HNN, HI, HR, HSZ⟩ := hrel
      by_cases hi : i < s.size
      · skip
        obtain ⟨k1, hk1⟩ : ∃ k1, gk = k1 + 1 := ⟨gk - 1, by have := HK.out; omega⟩
        subst hk1
        obtain ⟨ad, e_, hcell⟩ := ReadsInt.at_ HR.out (i : Int) (by omega) (by omega)
        injection e_ with e_
        subst e_
        rw [add_plain, Int.toNat_natCast] at hcell
        have hl := HL.out
        rw [List.drop_eq_getElem_cons (by rw [bytesOf_length]; exact hi), show (bytesOf s)[i]'(by rw [bytesOf_length]; exact hi) = rd (bytesOf s) (i : Int) by unfold rd; rw [Int.toNat_natCast]; simp [bytesOf_length, hi]] at hl
        generalize rd (bytesOf s) (i : Int) = x at hl hcell
        simp only [wlp] at hl
        obtain ⟨own, hg, hl⟩ := Option.bind_eq_some_iff.1 hl
        have hx := dgain_sign hg
        have HG := Aside0.mk hg
        have HL2 := Aside0.mk hl
        have HNB : Aside0 (n' + 3 ^ 14 ≤ 1000000000000) := ⟨by have := HNN.out; have := HC2.out; have := HP.out; omega⟩
        have E1 := Aside0.mk (show wrap64 ((i : Int) + 1) = ((i + 1 : Nat) : Int) by have := HC2.out; unfold wrap64; omega)
        have d0 : decide (0 ≤ (i : Int)) = true := decide_eq_true (by omega)
        have HNE : Aside0 (w6.heap.size ≠ w0.heap.size) := ⟨by have := HQ6.out; omega⟩
        clear hl hg HL
        have h73 : sg 73 = (⟨#[73]⟩ : ByteArray) := rfl
        have h79 : sg 79 = (⟨#[79]⟩ : ByteArray) := rfl
        by_cases hw : worst.toList = ([] : List UInt8)
        · have hb0 : (worst.toList == ([] : List UInt8)) = true := beq_iff_eq.2 hw
          have HL3 : Aside0 (wlp (dgain k l (dval k l 14) so) ((bytesOf s).drop (i + 1)) (sg x) own = some (g1, g2)) := ⟨by have h_ := HL2.out; rw [if_pos (.inl hw)] at h_; exact h_⟩
          clear HL2 hw
          rcases hx with rfl | rfl
          · have hu : Utf8.encode 73 = (⟨#[73]⟩ : ByteArray) := by decide
            have hsz : (⟨#[73]⟩ : ByteArray).size = 1 := rfl
            rw [h73] at HL3
            clear h73 h79
            go_wp2_with (go_at_call 87; (refine (gain_calls k l 14 w0 (w0.heap.size + 1) w0.heap.size A c hr0.out hc0.out HV.out so 73 own n' _ HG.out HI.out HNB.out).mono ?_); rintro e w8 ⟨rfl, hk8, n8, hn8, hi8⟩; have HI8 := Aside0.mk hi8; have HN8 := Aside0.mk hn8; have HR8 := Aside0.mk (reads_keep HR.out hk8 HNE.out HSZ.out); have HZ8 := Aside0.mk (Nat.lt_of_lt_of_le HSZ.out hk8.1); clear hi8 hn8 hk8)
            go_roundg k1
            case measure => omega
            case rel => exact ⟨i + 1, ⟨#[73]⟩, own, n8, rfl, rfl, by rw [E1.out], ⟨by have := HK.out; omega⟩, HL3, ⟨by have h1 := HN8.out; have h2 := HNN.out; have := HP.out; omega⟩, HI8, HR8, HZ8⟩
          · have hu : Utf8.encode 79 = (⟨#[79]⟩ : ByteArray) := by decide
            have hsz : (⟨#[79]⟩ : ByteArray).size = 1 := rfl
            rw [h79] at HL3
            clear h73 h79
            go_wp2_with (go_at_call 87; (refine (gain_calls k l 14 w0 (w0.heap.size + 1) w0.heap.size A c hr0.out hc0.out HV.out so 79 own n' _ HG.out HI.out HNB.out).mono ?_); rintro e w8 ⟨rfl, hk8, n8, hn8, hi8⟩; have HI8 := Aside0.mk hi8; have HN8 := Aside0.mk hn8; have HR8 := Aside0.mk (reads_keep HR.out hk8 HNE.out HSZ.out); have HZ8 := Aside0.mk (Nat.lt_of_lt_of_le HSZ.out hk8.1); clear hi8 hn8 hk8)
            go_roundg k1
            case measure => omega
            case rel => exact ⟨i + 1, ⟨#[79]⟩, own, n8, rfl, rfl, by rw [E1.out], ⟨by have := HK.out; omega⟩, HL3, ⟨by have h1 := HN8.out; have h2 := HNN.out; have := HP.out; omega⟩, HI8, HR8, HZ8⟩
        · have hb0 : (worst.toList == ([] : List UInt8)) = false := beq_eq_false_iff_ne.2 hw
          by_cases hlt : own < least
          · have HL3 : Aside0 (wlp (dgain k l (dval k l 14) so) ((bytesOf s).drop (i + 1)) (sg x) own = some (g1, g2)) := ⟨by have h_ := HL2.out; rw [if_pos (.inr hlt)] at h_; exact h_⟩
            have hgd : decide (own < least) = true := decide_eq_true hlt
            clear HL2 hw
            rcases hx with rfl | rfl
            · have hu : Utf8.encode 73 = (⟨#[73]⟩ : ByteArray) := by decide
              have hsz : (⟨#[73]⟩ : ByteArray).size = 1 := rfl
              rw [h73] at HL3
              clear h73 h79
              go_wp2_with (go_at_call 87; (refine (gain_calls k l 14 w0 (w0.heap.size + 1) w0.heap.size A c hr0.out hc0.out HV.out so 73 own n' _ HG.out HI.out HNB.out).mono ?_); rintro e w8 ⟨rfl, hk8, n8, hn8, hi8⟩; have HI8 := Aside0.mk hi8; have HN8 := Aside0.mk hn8; have HR8 := Aside0.mk (reads_keep HR.out hk8 HNE.out HSZ.out); have HZ8 := Aside0.mk (Nat.lt_of_lt_of_le HSZ.out hk8.1); clear hi8 hn8 hk8)
              go_roundg k1
              case measure => omega
              case rel => exact ⟨i + 1, ⟨#[73]⟩, own, n8, rfl, rfl, by rw [E1.out], ⟨by have := HK.out; omega⟩, HL3, ⟨by have h1 := HN8.out; have h2 := HNN.out; have := HP.out; omega⟩, HI8, HR8, HZ8⟩
            · have hu : Utf8.encode 79 = (⟨#[79]⟩ : ByteArray) := by decide
              have hsz : (⟨#[79]⟩ : ByteArray).size = 1 := rfl
              rw [h79] at HL3
              clear h73 h79
              go_wp2_with (go_at_call 87; (refine (gain_calls k l 14 w0 (w0.heap.size + 1) w0.heap.size A c hr0.out hc0.out HV.out so 79 own n' _ HG.out HI.out HNB.out).mono ?_); rintro e w8 ⟨rfl, hk8, n8, hn8, hi8⟩; have HI8 := Aside0.mk hi8; have HN8 := Aside0.mk hn8; have HR8 := Aside0.mk (reads_keep HR.out hk8 HNE.out HSZ.out); have HZ8 := Aside0.mk (Nat.lt_of_lt_of_le HSZ.out hk8.1); clear hi8 hn8 hk8)
              go_roundg k1
              case measure => omega
              case rel => exact ⟨i + 1, ⟨#[79]⟩, own, n8, rfl, rfl, by rw [E1.out], ⟨by have := HK.out; omega⟩, HL3, ⟨by have h1 := HN8.out; have h2 := HNN.out; have := HP.out; omega⟩, HI8, HR8, HZ8⟩
          · have HL3 : Aside0 (wlp (dgain k l (dval k l 14) so) ((bytesOf s).drop (i + 1)) worst least = some (g1, g2)) := ⟨by have h_ := HL2.out; rw [if_neg (by rintro (h_ | h_); exact hw h_; exact hlt h_)] at h_; exact h_⟩
            have hgd : decide (own < least) = false := decide_eq_false hlt
            clear HL2 hw h73 h79
            go_wp2_with (go_at_call 87; (refine (gain_calls k l 14 w0 (w0.heap.size + 1) w0.heap.size A c hr0.out hc0.out HV.out so x own n' _ HG.out HI.out HNB.out).mono ?_); rintro e w8 ⟨rfl, hk8, n8, hn8, hi8⟩; have HI8 := Aside0.mk hi8; have HN8 := Aside0.mk hn8; have HR8 := Aside0.mk (reads_keep HR.out hk8 HNE.out HSZ.out); have HZ8 := Aside0.mk (Nat.lt_of_lt_of_le HSZ.out hk8.1); clear hi8 hn8 hk8)
            go_roundg k1
            case measure => omega
            case rel => exact ⟨i + 1, worst, least, n8, rfl, rfl, by rw [E1.out], ⟨by have := HK.out; omega⟩, HL3, ⟨by have h1 := HN8.out; have h2 := HNN.out; have := HP.out; omega⟩, HI8, HR8, HZ8⟩
      · obtain rfl : i = s.size := by have := HK.out; omega
        have hl := HL.out
        rw [List.drop_of_length_le (by rw [bytesOf_length]; exact Nat.le_refl _)] at hl
        have h' := Option.some.inj hl
        simp only [Prod.mk.injEq] at h'
        obtain ⟨rfl, rfl⟩ := h'
        clear hl HL
        go_wp2_with (go_at_call 78; (refine (HV.out.at_ so v n' _ HVV.out HI.out (by have h2 := HNN.out; have := HC2.out; have := HP.out; omega)).mono ?_); rintro e w9 ⟨rfl, hk9, n9, hn9, hi9⟩; have HI9 := Aside0.mk hi9; clear hi9 hn9 hk9)
        go_ret3
        exact ⟨rfl, HI9.out.bel⟩

end Go.Proofs.Ytnoapomobflknaa.Xd
