/- (*l1Cur).spoilt: a text with one byte more, another one, or one less. -/
import Derived.Test.YtnoapomobflknaaZwXw0
import Derived.Test.YtnoapomobflknaaZwXw5
import Derived.BigQuiet
import Derived.Lib.IndexLaws
import Derived.Deep.QuietTactic
namespace Go.Proofs.Ytnoapomobflknaa.Xw
open Go.RowKit Go.Proofs.YtnoapomobflknaaW.PrintWords Go.Proofs.YtnoapomobflknaaW.PrintLast Go.Proofs.YtnoapomobflknaaW.PrintMore
attribute [local go_sem] max2_int min2_int max_two min_two max_three min_three max_four min_four
set_option linter.unusedVariables false
set_option linter.unusedSimpArgs false
def spec_l1Cur_spoilt.f (s : List Int) (a sd : Int) (t v : ByteArray) : Option (ByteArray × Int × Int) :=
  if t.size = 0 then (if 1 ≤ (v.size : Int) then some (v.extract 0 1, a, sd) else none)
  else (spec_l1Cur_pick.f s a sd (t.size : Int)).bind fun p1 => (spec_l1Cur_pick.f s p1.2.1 p1.2.2 (v.size : Int)).bind fun p2 => (spec_l1Cur_pick.f s p2.2.1 p2.2.2 3).bind fun p3 =>
    if 0 ≤ p1.1 ∧ p1.1 + 1 ≤ (t.size : Int) ∧ 0 ≤ p2.1 ∧ p2.1 + 1 ≤ (v.size : Int) ∧ t.size ≤ 1000000000 ∧ v.size ≤ 1000000000 then
      some (if p3.1 = 0 then (t.extract 0 p1.1.toNat ++ (v.extract p2.1.toNat v.size).extract 0 1) ++ t.extract p1.1.toNat t.size
        else if p3.1 = 1 then (t.extract 0 p1.1.toNat ++ (v.extract p2.1.toNat v.size).extract 0 1) ++ t.extract (p1.1 + 1).toNat t.size
        else t.extract 0 p1.1.toNat ++ t.extract (p1.1 + 1).toNat t.size, p3.2.1, p3.2.2) else none
theorem spoilt_size (x : ByteArray) (i j : Nat) : (x.extract i j).size ≤ x.size := by
  rw [ByteArray.size_extract]
  omega
theorem spoilt_from (x : ByteArray) (i : Nat) : (x.extract i x.size).size = x.size - i := by
  rw [ByteArray.size_extract]
  omega
set_option maxHeartbeats 8000000 in
set_option maxRecDepth 100000 in
theorem spec_l1Cur_spoilt.calls (g : Nat) (s0_0 : List Int) (s0_1 : Int) (s0_2 : Int) (a1 : ByteArray) (a2 : ByteArray) (r1 : ByteArray) (r2 : Int) (r3 : Int) (w0 w : World) (hI : IsS93 w0 w g s0_0 s0_1 s0_2) (hB : Below w0.heap.size w0 w) (h : spec_l1Cur_spoilt.f s0_0 s0_1 s0_2 a1 a2 = some (r1, r2, r3)) :
    Calls Try.prog 155 #[.pointer (some ⟨g, 0, none⟩), .string a1, .string a2] w fun e w' => e = .returned (.string r1) ∧ IsS93 w0 w' g s0_0 r2 r3 ∧ Below w0.heap.size w0 w' ∧ KeepBut w w' g none := by
  unfold spec_l1Cur_spoilt.f at h
  have hus := Try.underlying9
  by_cases c : a1.size = 0
  · rw [if_pos c] at h
    by_cases c2 : 1 ≤ (a2.size : Int)
    · rw [if_pos c2] at h
      simp only [Option.some.injEq, Prod.mk.injEq] at h
      obtain ⟨rfl, rfl, rfl⟩ := h
      have e0 : a1.toList = ([] : List UInt8) := by
        rw [Go.Lib.toList_data a1]
        exact List.length_eq_zero_iff.1 (by rw [Array.length_toList]; exact c)
      have c4b0 : (a1.toList == ([] : List UInt8)) = true := beq_iff_eq.mpr e0
      have HI := Aside0.mk hI
      have HB := Aside0.mk hB
      clear hI hB c e0
      have hcut : ∀ W : World, (Instr.slice 9 (.string a2) none (some (.int .i64 1)) none).run Try.prog W = .ok (.string (a2.extract 0 1)) W := fun W => run_slice_string_h (P := Try.prog) W 9 _ hus .i64 1 (by omega) c2
      go_enter Try.func155, Try.ntmps155
      go_wp2
      go_ret
      exact ⟨rfl, HI.out, HB.out, KeepBut.refl _ _ _⟩
    · rw [if_neg c2] at h
      cases h
  · rw [if_neg c] at h
    obtain ⟨⟨i, b1, d1⟩, e1, h⟩ := Option.bind_eq_some_iff.mp h
    obtain ⟨⟨j, b2, d2⟩, e2, h⟩ := Option.bind_eq_some_iff.mp h
    obtain ⟨⟨m, b3, d3⟩, e3, h⟩ := Option.bind_eq_some_iff.mp h
    simp only at e1 e2 e3 h
    by_cases cc : 0 ≤ i ∧ i + 1 ≤ (a1.size : Int) ∧ 0 ≤ j ∧ j + 1 ≤ (a2.size : Int) ∧ a1.size ≤ 1000000000 ∧ a2.size ≤ 1000000000
    · rw [if_pos cc] at h
      obtain ⟨i0, i1, j0, j1, z1, z2⟩ := cc
      have en : a1.toList ≠ ([] : List UInt8) := by
        intro e0
        rw [Go.Lib.toList_data a1] at e0
        exact c (by have : a1.data.toList.length = 0 := by rw [e0]; rfl
                    rw [Array.length_toList] at this; exact this)
      have c4b0 : (a1.toList == ([] : List UInt8)) = false := beq_eq_false_iff_ne.mpr en
      have sz := spoilt_from a2 j.toNat
      obtain ⟨x1, hx1⟩ : ∃ x, x = a2.extract j.toNat a2.size := ⟨_, rfl⟩
      obtain ⟨x2, hx2⟩ : ∃ x, x = x1.extract 0 1 := ⟨_, rfl⟩
      obtain ⟨p, hp⟩ : ∃ x, x = a1.extract 0 i.toNat := ⟨_, rfl⟩
      obtain ⟨q, hq⟩ : ∃ x, x = a1.extract i.toNat a1.size := ⟨_, rfl⟩
      obtain ⟨q1, hq1⟩ : ∃ x, x = a1.extract (i + 1).toNat a1.size := ⟨_, rfl⟩
      have hcx1 : ∀ W : World, (Instr.slice 9 (.string a2) (some (.int .i64 j)) none none).run Try.prog W = .ok (.string x1) W := fun W => by rw [hx1]; exact run_slice_string_l (P := Try.prog) W 9 _ hus .i64 j j0 (by omega)
      have hcx2 : ∀ W : World, (Instr.slice 9 (.string x1) none (some (.int .i64 1)) none).run Try.prog W = .ok (.string x2) W := fun W => by rw [hx2]; exact run_slice_string_h (P := Try.prog) W 9 _ hus .i64 1 (by omega) (by rw [hx1, sz]; omega)
      have hcp : ∀ W : World, (Instr.slice 9 (.string a1) none (some (.int .i64 i)) none).run Try.prog W = .ok (.string p) W := fun W => by rw [hp]; exact run_slice_string_h (P := Try.prog) W 9 _ hus .i64 i i0 (by omega)
      have hcq : ∀ W : World, (Instr.slice 9 (.string a1) (some (.int .i64 i)) none none).run Try.prog W = .ok (.string q) W := fun W => by rw [hq]; exact run_slice_string_l (P := Try.prog) W 9 _ hus .i64 i i0 (by omega)
      have hcq1 : ∀ W : World, (Instr.slice 9 (.string a1) (some (.int .i64 (i + 1))) none none).run Try.prog W = .ok (.string q1) W := fun W => by rw [hq1]; exact run_slice_string_l (P := Try.prog) W 9 _ hus .i64 (i + 1) (by omega) (by omega)
      have zx2 : x2.size ≤ 1000000000 := by rw [hx2, hx1]; exact Nat.le_trans (spoilt_size _ _ _) (Nat.le_trans (spoilt_size _ _ _) z2)
      have zp : p.size ≤ 1000000000 := by rw [hp]; exact Nat.le_trans (spoilt_size _ _ _) z1
      have zq : q.size ≤ 1000000000 := by rw [hq]; exact Nat.le_trans (spoilt_size _ _ _) z1
      have zq1 : q1.size ≤ 1000000000 := by rw [hq1]; exact Nat.le_trans (spoilt_size _ _ _) z1
      rw [← hx1, ← hx2, ← hp, ← hq, ← hq1] at h
      have k1 : p.size + x2.size ≤ 9223372036854775807 := by omega
      have k2 : (p ++ x2).size + q.size ≤ 9223372036854775807 := by simp only [ByteArray.size_append]; omega
      have k3 : (p ++ x2).size + q1.size ≤ 9223372036854775807 := by simp only [ByteArray.size_append]; omega
      have k4 : p.size + q1.size ≤ 9223372036854775807 := by omega
      have k5 : p.size + x2.size + q.size ≤ 9223372036854775807 := by omega
      have k6 : p.size + x2.size + q1.size ≤ 9223372036854775807 := by omega
      have ei : IntKind.i64.wrap (i + 1) = i + 1 := by rw [i64_w]; unfold wrap64; omega
      have HI := Aside0.mk hI
      have HB := Aside0.mk hB
      have E1 := Aside0.mk e1
      have E2 := Aside0.mk e2
      have E3 := Aside0.mk e3
      clear hI hB e1 e2 e3 hx1 hx2 hp hq hq1 c en sz zx2 zp zq zq1 z1 z2 j0 j1
      by_cases m0 : m = 0
      · have m0b : (m == 0) = true := beq_iff_eq.mpr m0
        rw [if_pos m0] at h
        simp only [Option.some.injEq, Prod.mk.injEq] at h
        obtain ⟨rfl, rfl, rfl⟩ := h
        clear m0
        go_enter Try.func155, Try.ntmps155
        go_upto_region 4 with (go_at_call 140; (refine (spec_l1Cur_pick.calls g s0_0 s0_1 s0_2 (a1.size : Int) i b1 d1 w0 _ HI.out HB.out E1.out).mono ?_); rintro e w1 ⟨rfl, hi, hb, hk⟩; have HI1 := Aside0.mk hi; have HB1 := Aside0.mk hb; have HK1 := Aside0.mk hk; clear hi hb hk)
        go_upto_region 5 with (go_at_call 140; (refine (spec_l1Cur_pick.calls g s0_0 b1 d1 (a2.size : Int) j b2 d2 w0 _ HI1.out HB1.out E2.out).mono ?_); rintro e w2 ⟨rfl, hi, hb, hk⟩; have HI2 := Aside0.mk hi; have HB2 := Aside0.mk hb; have HK2 := Aside0.mk hk; clear hi hb hk)
        go_upto_region 6 with (go_at_call 140; (refine (spec_l1Cur_pick.calls g s0_0 b2 d2 3 m b3 d3 w0 _ HI2.out HB2.out E3.out).mono ?_); rintro e w3 ⟨rfl, hi, hb, hk⟩; have HI3 := Aside0.mk hi; have HB3 := Aside0.mk hb; have HK3 := Aside0.mk hk; clear hi hb hk)
        go_upto_region 7 with (fail)
        go_quiet (fail)
        go_wp2
        go_ret
        exact ⟨rfl, HI3.out, pw_below_drewN HB3.out _, keep_drewN ((HK1.out.trans HK2.out (.inl rfl)).trans HK3.out (.inl rfl)) _⟩
      · have m0b : (m == 0) = false := beq_eq_false_iff_ne.mpr m0
        rw [if_neg m0] at h
        clear m0
        by_cases m1 : m = 1
        · have m1b : (m == 1) = true := beq_iff_eq.mpr m1
          rw [if_pos m1] at h
          simp only [Option.some.injEq, Prod.mk.injEq] at h
          obtain ⟨rfl, rfl, rfl⟩ := h
          clear m1
          go_enter Try.func155, Try.ntmps155
          go_upto_region 4 with (go_at_call 140; (refine (spec_l1Cur_pick.calls g s0_0 s0_1 s0_2 (a1.size : Int) i b1 d1 w0 _ HI.out HB.out E1.out).mono ?_); rintro e w1 ⟨rfl, hi, hb, hk⟩; have HI1 := Aside0.mk hi; have HB1 := Aside0.mk hb; have HK1 := Aside0.mk hk; clear hi hb hk)
          go_upto_region 5 with (go_at_call 140; (refine (spec_l1Cur_pick.calls g s0_0 b1 d1 (a2.size : Int) j b2 d2 w0 _ HI1.out HB1.out E2.out).mono ?_); rintro e w2 ⟨rfl, hi, hb, hk⟩; have HI2 := Aside0.mk hi; have HB2 := Aside0.mk hb; have HK2 := Aside0.mk hk; clear hi hb hk)
          go_upto_region 6 with (go_at_call 140; (refine (spec_l1Cur_pick.calls g s0_0 b2 d2 3 m b3 d3 w0 _ HI2.out HB2.out E3.out).mono ?_); rintro e w3 ⟨rfl, hi, hb, hk⟩; have HI3 := Aside0.mk hi; have HB3 := Aside0.mk hb; have HK3 := Aside0.mk hk; clear hi hb hk)
          go_upto_region 9 with (fail)
          go_quiet (fail)
          go_wp2
          go_ret
          exact ⟨rfl, HI3.out, pw_below_drewN HB3.out _, keep_drewN ((HK1.out.trans HK2.out (.inl rfl)).trans HK3.out (.inl rfl)) _⟩
        · have m1b : (m == 1) = false := beq_eq_false_iff_ne.mpr m1
          rw [if_neg m1] at h
          simp only [Option.some.injEq, Prod.mk.injEq] at h
          obtain ⟨rfl, rfl, rfl⟩ := h
          clear m1
          go_enter Try.func155, Try.ntmps155
          go_upto_region 4 with (go_at_call 140; (refine (spec_l1Cur_pick.calls g s0_0 s0_1 s0_2 (a1.size : Int) i b1 d1 w0 _ HI.out HB.out E1.out).mono ?_); rintro e w1 ⟨rfl, hi, hb, hk⟩; have HI1 := Aside0.mk hi; have HB1 := Aside0.mk hb; have HK1 := Aside0.mk hk; clear hi hb hk)
          go_upto_region 5 with (go_at_call 140; (refine (spec_l1Cur_pick.calls g s0_0 b1 d1 (a2.size : Int) j b2 d2 w0 _ HI1.out HB1.out E2.out).mono ?_); rintro e w2 ⟨rfl, hi, hb, hk⟩; have HI2 := Aside0.mk hi; have HB2 := Aside0.mk hb; have HK2 := Aside0.mk hk; clear hi hb hk)
          go_upto_region 6 with (go_at_call 140; (refine (spec_l1Cur_pick.calls g s0_0 b2 d2 3 m b3 d3 w0 _ HI2.out HB2.out E3.out).mono ?_); rintro e w3 ⟨rfl, hi, hb, hk⟩; have HI3 := Aside0.mk hi; have HB3 := Aside0.mk hb; have HK3 := Aside0.mk hk; clear hi hb hk)
          go_upto_region 10 with (fail)
          go_quiet (fail)
          go_wp2
          go_ret
          exact ⟨rfl, HI3.out, pw_below_drewN HB3.out _, keep_drewN ((HK1.out.trans HK2.out (.inl rfl)).trans HK3.out (.inl rfl)) _⟩
    · rw [if_neg cc] at h
      cases h

end Go.Proofs.Ytnoapomobflknaa.Xw
