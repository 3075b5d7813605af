/- The whole word to which a beginning goes on by first best signs: the program. -/
import Derived.Test.YtnoapomobflknaaZwXw0
import Derived.Test.YtnoapomobflknaaZwXw1
import Derived.Test.YtnoapomobflknaaZwXw2
import Derived.Test.YtnoapomobflknaaZwXwHbest
import Derived.Test.YtnoapomobflknaaZwXwHduel
import Derived.Test.YtnoapomobflknaaZwXwHsclone
namespace Go.Proofs.Ytnoapomobflknaa.Xw
open Go.RowKit Go.Proofs.YtnoapomobflknaaW.PrintWords Go.Proofs.YtnoapomobflknaaW.PrintLast Go.Proofs.YtnoapomobflknaaW.PrintMore
attribute [local go_sem] max2_int min2_int max_two min_two max_three min_three max_four min_four
set_option linter.unusedVariables false
set_option linter.unusedSimpArgs false

def dword (k : Nat) (l : List Int) : Nat → ByteArray → ByteArray → Option ByteArray
  | 0, _, _ => none
  | m + 1, so, t => if t.toList = ([] : List UInt8) then some so else if 1 ≤ (t.size : Int) ∧ so.size + (t.extract 0 1).size ≤ 9223372036854775807 then (dbest k l (so ++ t.extract 0 1)).bind fun u => dword k l m (so ++ t.extract 0 1) u else none
def impl_DuelWord.f (k : Nat) (l : List Int) (so : ByteArray) : Option (ByteArray × Bool) := (impl_isDuel.f k l so).bind fun b => if b = true then (dbest k l so).bind fun t => (dword k l 20 so t).bind fun r => (strings_Clone.f r).bind fun r2 => some (r2, true) else some (⟨#[]⟩, false)
theorem dword_le (k : Nat) (l : List Int) : ∀ m s t, LeO (dword k l m s t) (dword (k + 1) l m s t)
  | 0, _, _ => LeO.none _
  | m + 1, s, t => LeO.ite (LeO.refl _) (LeO.ite (LeO.bind (dbest_mono _ _ _) fun _ => dword_le k l m _ _) (LeO.none _))
theorem impl_DuelWord.mono : ∀ a0 a1 k, LeO (impl_DuelWord.f k a0 a1) (impl_DuelWord.f (k + 1) a0 a1) := fun a0 a1 k =>
  LeO.bind (impl_isDuel.mono _ _ _) fun _ => LeO.ite (LeO.bind (dbest_mono _ _ _) fun _ => LeO.bind (dword_le _ _ _ _ _) fun _ => LeO.refl _) (LeO.refl _)
set_option maxHeartbeats 8000000 in
set_option maxRecDepth 100000 in
theorem impl_DuelWord.calls (k : Nat) (A : Option Addr) (c : Nat) (l : List Int) (so : ByteArray) (r1 : ByteArray) (r2 : Bool) (w0 : World) (hr0 : Kd.C (Kd.int .i64) w0 A l.length l) (hc0 : l.length ≤ c) (h : impl_DuelWord.f k l so = some (r1, r2)) :
    Calls Try.prog 42 #[.slice A l.length c, .string so] w0 fun e w' => e = .returned (.tuple #[.string r1, .bool r2]) ∧ Below w0.heap.size w0 w' := by
  obtain ⟨b, hb, h⟩ := Option.bind_eq_some_iff.1 h
  have HO := Aside0.mk (duelOf_calls k l A c so b w0 hr0 hc0 hb)
  have HV := Aside0.mk (best_calls k l w0 (w0.heap.size + 1) w0.heap.size A c hr0 hc0)
  clear hb hr0 hc0
  cases b with
  | false =>
    rw [if_neg Bool.false_ne_true] at h
    have h' := Option.some.inj h
    simp only [Prod.mk.injEq] at h'
    obtain ⟨rfl, rfl⟩ := h'
    clear h HV
    go_enter Try.func42, Try.ntmps42
    go_wp2_with (go_at_call 77; (with_reducible refine HO.out.mono ?_); rintro e w6 ⟨rfl, hi⟩; have HI := Aside0.mk hi; clear hi)
    go_ret2
    exact ⟨rfl, HI.out.bel⟩
  | true =>
    rw [if_pos rfl] at h
    obtain ⟨t, ht, h⟩ := Option.bind_eq_some_iff.1 h
    obtain ⟨r, hr, h⟩ := Option.bind_eq_some_iff.1 h
    obtain ⟨r', hr', h⟩ := Option.bind_eq_some_iff.1 h
    have h' := Option.some.inj h
    simp only [Prod.mk.injEq] at h'
    obtain ⟨rfl, rfl⟩ := h'
    have HT := Aside0.mk ht
    have HL := Aside0.mk hr
    have HCL := Aside0.mk hr'
    clear h ht hr hr'
    go_enter Try.func42, Try.ntmps42
    go_wp2_with (first
      | (go_at_call 77; (with_reducible refine HO.out.mono ?_); rintro e w5 ⟨rfl, hi⟩; have HI5 := Aside0.mk hi; clear hi)
      | (go_at_call 81; (refine (HV.out so t 1 _ HT.out HI5.out (by decide)).mono ?_); rintro e w6 ⟨rfl, _, n6, hn6, hi⟩; have HI6 := Aside0.mk hi; have HN6 := Aside0.mk hn6; clear hi hn6))
    go_loopg [1, 8] 20 (fun kq v1 v8 wr => ∃ (s u : ByteArray) (n' : Nat), v1 = .string s ∧ v8 = .string u ∧ Aside0 (kq ≤ 20) ∧ Aside0 (dword k l kq s u = some r) ∧ Aside0 (n' ≤ 1 + (21 - kq) * 20000000) ∧ Aside0 (DInv w0 wr (w0.heap.size + 1) w0.heap.size A c l k n'))
    case atStart => exact ⟨so, t, n6, rfl, rfl, ⟨Nat.le_refl _⟩, HL, ⟨by have := HN6.out; omega⟩, HI6⟩
    case round =>
      clear HI6 HN6 HL
      obtain ⟨s, u, n', rfl, rfl, HK, HL, HNN, HI⟩ := hrel
      cases gk with
      | zero => exact absurd HL.out (by simp [dword])
      | succ k1 =>
        have hl := HL.out
        simp only [dword] at hl
        by_cases hu : u.toList = ([] : List UInt8)
        · rw [if_pos hu] at hl
          obtain rfl := Option.some.inj hl
          have c1 : (u.toList == ([] : List UInt8)) = true := beq_iff_eq.mpr hu
          have c2 : (u.toList != ([] : List UInt8)) = false := bne_eq_false_iff_eq.mpr hu
          clear hl HL hu
          go_wp2_with (go_at_call 114; (with_reducible refine (strings_Clone.calls s _ _ HCL.out).mono ?_); rintro e w9 ⟨rfl, hb⟩; have HB9 := Aside0.mk hb; clear hb)
          go_ret2
          exact ⟨rfl, below_step HI.out.bel HB9.out⟩
        · rw [if_neg hu] at hl
          have c1 : (u.toList == ([] : List UInt8)) = false := beq_eq_false_iff_ne.mpr hu
          have c2 : (u.toList != ([] : List UInt8)) = true := bne_iff_ne.mpr hu
          by_cases hs : 1 ≤ (u.size : Int) ∧ s.size + (u.extract 0 1).size ≤ 9223372036854775807
          · rw [if_pos hs] at hl
            obtain ⟨v, hv, hl⟩ := Option.bind_eq_some_iff.1 hl
            obtain ⟨hs1, hs2⟩ := hs
            have p1 := eq_true hs1
            have p1b : decide (1 ≤ (u.size : Int)) = true := decide_eq_true hs1
            have q1 := eq_true hs2
            have q1b : decide (s.size + (u.extract 0 1).size ≤ 9223372036854775807) = true := decide_eq_true hs2
            have q1c : (9223372036854775807 < s.size + (u.extract 0 1).size) = False := eq_false (Nat.not_lt.2 hs2)
            have HVV := Aside0.mk hv
            have HL3 := Aside0.mk hl
            clear hl HL hu hv hs1
            go_wp2_with (go_at_call 81; (refine (HV.out (s ++ u.extract 0 1) v n' _ HVV.out HI.out (by have := HNN.out; have := HK.out; omega)).mono ?_); rintro e w6 ⟨rfl, _, n8, hn8, hi⟩; have HI8 := Aside0.mk hi; have HN8 := Aside0.mk hn8; clear hi hn8)
            go_roundg k1
            case measure => have := HK.out; omega
            case rel => exact ⟨s ++ u.extract 0 1, v, n8, rfl, rfl, ⟨by have := HK.out; omega⟩, HL3, ⟨by have := HN8.out; have := HNN.out; have := HK.out; omega⟩, HI8⟩
          · rw [if_neg hs] at hl
            cases hl

end Go.Proofs.Ytnoapomobflknaa.Xw
