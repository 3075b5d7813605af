/- The value of a beginning by the reference, and how much more who goes on gets with a sign: each calls the other. -/
import Derived.Test.YtnoapomobflknaaZwXw0
import Derived.Test.YtnoapomobflknaaZwXw4
import Derived.Test.YtnoapomobflknaaZwXw8
namespace Go.Proofs.Ytnoapomobflknaa.Xw
open Go.RowKit Go.Proofs.YtnoapomobflknaaW.PrintWords Go.Proofs.YtnoapomobflknaaW.PrintLast Go.Proofs.YtnoapomobflknaaW.PrintMore
attribute [local go_sem] max2_int min2_int max_two min_two max_three min_three max_four min_four
set_option linter.unusedVariables false
set_option linter.unusedSimpArgs false

def sby (k : Nat) (l : List Int) (V : ByteArray → Option Int) (so sign : ByteArray) : Option Int :=
  if so.size + sign.size ≤ 1000000 then (if sign.toList = ([79] : List UInt8) then (spec_l11Stack.f k l so).bind fun t => if 0 < t.length ∧ t.length ≤ 1000000 then some (rd t ((t.length : Int) - 1)) else none else some 0).bind fun g => (V (so ++ sign)).bind fun v => some (wrap64 (g - v)) else none
def slp (G : ByteArray → Option Int) (sg : ByteArray) : Nat → Nat → Int → Option Int
  | 0, _, best => some best
  | d + 1, i, best => (G (sg.extract i (i + 1))).bind fun m => slp G sg d (i + 1) (if i = 0 ∨ m > best then m else best)
def sval (k : Nat) (l : List Int) : Nat → ByteArray → Option Int
  | 0, _ => none
  | m + 1, so => (spec_l11Signs.f k (l.length : Int) so).bind fun sg => if sg.size ≤ 4 then slp (sby k l (sval k l m) so) sg sg.size 0 0 else none
theorem sby_le {k : Nat} {l : List Int} {V W : ByteArray → Option Int} (h : ∀ s, LeO (V s) (W s)) (so c : ByteArray) : LeO (sby k l V so c) (sby (k + 1) l W so c) :=
  LeO.ite (LeO.bind (LeO.ite (LeO.bind (spec_l11Stack.mono _ _ _) fun _ => LeO.refl _) (LeO.refl _)) fun _ => LeO.bind (h _) fun _ => LeO.refl _) (LeO.none _)
theorem sby_le' {k : Nat} {l : List Int} {V W : ByteArray → Option Int} (h : ∀ s, LeO (V s) (W s)) (so c : ByteArray) : LeO (sby k l V so c) (sby k l W so c) :=
  LeO.ite (LeO.bind (LeO.refl _) fun _ => LeO.bind (h _) fun _ => LeO.refl _) (LeO.none _)
theorem slp_le {G H : ByteArray → Option Int} (h : ∀ c, LeO (G c) (H c)) (sg : ByteArray) : ∀ d i b, LeO (slp G sg d i b) (slp H sg d i b)
  | 0, _, _ => LeO.refl _
  | d + 1, i, b => LeO.bind (h _) fun _ => slp_le h sg d _ _
theorem sval_mono (k : Nat) (l : List Int) : ∀ m s, LeO (sval k l m s) (sval (k + 1) l m s)
  | 0, _ => LeO.none _
  | m + 1, so => LeO.bind (spec_l11Signs.mono _ _ _) fun _ => LeO.ite (slp_le (sby_le (sval_mono k l m) so) _ _ _ _) (LeO.none _)
theorem sval_more (k : Nat) (l : List Int) : ∀ m s, LeO (sval k l m s) (sval k l (m + 1) s)
  | 0, _ => LeO.none _
  | m + 1, so => LeO.bind (LeO.refl _) fun _ => LeO.ite (slp_le (sby_le' (sval_more k l m) so) _ _ _ _) (LeO.none _)
def SVal (k : Nat) (l : List Int) (m : Nat) (A : Option Addr) (c : Nat) : Prop :=
  ∀ (so : ByteArray) (r : Int) (w : World), Kd.C (Kd.int .i64) w A l.length l → sval k l m so = some r →
    Calls Try.prog 80 #[.slice A l.length c, .string so] w fun e w' => e = .returned (.int .i64 r) ∧ Below w.heap.size w w'
theorem SVal.at_ {k : Nat} {l : List Int} {m : Nat} {A : Option Addr} {c : Nat} (h : SVal k l m A c) (so : ByteArray) (r : Int) (w : World) (hr : Kd.C (Kd.int .i64) w A l.length l) (hv : sval k l m so = some r) :
    Calls Try.prog 80 #[.slice A l.length c, .string so] w fun e w' => e = .returned (.int .i64 r) ∧ Below w.heap.size w w' := h so r w hr hv
set_option maxHeartbeats 8000000 in
set_option maxRecDepth 100000 in
theorem by_calls (k : Nat) (l : List Int) (m : Nat) (A : Option Addr) (c : Nat) (hc0 : l.length ≤ c) (hV : SVal k l m A c) (so sign : ByteArray) (r : Int) (w : World) (hr0 : Kd.C (Kd.int .i64) w A l.length l) (h : sby k l (sval k l m) so sign = some r) :
    Calls Try.prog 89 #[.slice A l.length c, .string so, .string sign] w fun e w' => e = .returned (.int .i64 r) ∧ Below w.heap.size w w' := by
  unfold sby at h
  by_cases hs : so.size + sign.size ≤ 1000000
  · rw [if_pos hs] at h
    obtain ⟨g, hg, h⟩ := Option.bind_eq_some_iff.1 h
    obtain ⟨v, hv, h⟩ := Option.bind_eq_some_iff.1 h
    obtain rfl := Option.some.inj h
    have HVV := Aside0.mk hv
    have HV := Aside0.mk hV
    have HR0 := Aside0.mk hr0
    have HC0 := Aside0.mk hc0
    have hcat : so.size + sign.size ≤ 9223372036854775807 := by omega
    have hcat2 : ¬ 9223372036854775807 < so.size + sign.size := by omega
    clear hv hV hr0 hc0 h hs
    by_cases hO : sign.toList = ([79] : List UInt8)
    · rw [if_pos hO] at hg
      have cO : (sign.toList == ([79] : List UInt8)) = true := beq_iff_eq.mpr hO
      obtain ⟨t, ht, hg⟩ := Option.bind_eq_some_iff.1 hg
      by_cases ht0 : 0 < t.length ∧ t.length ≤ 1000000
      · rw [if_pos ht0] at hg
        obtain rfl := Option.some.inj hg
        have HT := Aside0.mk ht
        have HT0 := Aside0.mk ht0
        obtain ⟨ji, hji⟩ : ∃ ji : Int, (t.length : Int) - 1 = ji := ⟨_, rfl⟩
        have ew2 : wrap64 ((t.length : Int) - 1) = ji := by unfold wrap64; omega
        have ew : IntKind.i64.wrap ((t.length : Int) - 1) = ji := (i64_w _).trans ew2
        have HJ0 : 0 ≤ ji := by omega
        have HJ1 : ji < (t.length : Int) := by omega
        have HJ0b : decide (0 ≤ ji) = true := decide_eq_true HJ0
        have HJ1b : decide (ji < (t.length : Int)) = true := decide_eq_true HJ1
        rw [hji]
        have HJI := Aside0.mk hji
        clear hji
        clear ht ht0 hg
        go_enter Try.func89, Try.ntmps89
        go_wp2_with (first
          | (go_at_call 85; (with_reducible refine (spec_l11Stack.calls k A c l so t _ HR0.out HC0.out HT.out).mono ?_); rintro e w6 ⟨v6, rfl, ho6, hb6⟩; obtain ⟨A6, c6, rfl⟩ := Kd.R_slice ho6; obtain ⟨ad, e_, hx⟩ := Kd.at_int (Kd.R_reads' ho6).2.2 ji HJ0 HJ1; cases e_; have p_ := eq_true HJ0; have q_ := eq_true HJ1; have HB6 := Aside0.mk hb6; clear ho6 hb6)
          | (go_at_call 80; (refine (HV.out.at_ (so ++ sign) v _ (Kd.C_below HR0.out HB6.out) HVV.out).mono ?_); rintro e w7 ⟨rfl, hb7⟩; have HB7 := Aside0.mk (below_step HB6.out hb7); clear hb7))
        go_ret
        exact ⟨rfl, HB7.out⟩
      · rw [if_neg ht0] at hg
        cases hg
    · rw [if_neg hO] at hg
      have cO : (sign.toList == ([79] : List UInt8)) = false := beq_eq_false_iff_ne.mpr hO
      obtain rfl := Option.some.inj hg
      go_enter Try.func89, Try.ntmps89
      go_wp2_with (first
        | (go_at_call 80; (refine (HV.out.at_ (so ++ sign) v _ HR0.out HVV.out).mono ?_); rintro e w7 ⟨rfl, hb7⟩; have HB7 := Aside0.mk hb7; clear hb7))
      go_ret
      exact ⟨by show Ending.returned (.int .i64 (wrap64 (-v))) = _; rw [show (0 : Int) - v = -v by omega], HB7.out⟩
  · rw [if_neg hs] at h
    cases h
set_option maxHeartbeats 8000000 in
set_option maxRecDepth 100000 in
theorem sval_calls (k : Nat) (l : List Int) (A : Option Addr) (c : Nat) (hc0 : l.length ≤ c) : ∀ m, SVal k l m A c := by
  intro m
  induction m with
  | zero => intro so r w _ h; cases h
  | succ m ih =>
    intro so r w hr0 h
    obtain ⟨s, hs, h⟩ := Option.bind_eq_some_iff.1 h
    have hc2 : s.size ≤ 4 := by
      by_cases h0 : s.size ≤ 4
      · exact h0
      · rw [if_neg h0] at h
        cases h
    rw [if_pos hc2] at h
    have HL := Aside0.mk h
    have HS := Aside0.mk hs
    have HR0 := Aside0.mk hr0
    have HC2 := Aside0.mk hc2
    have HC0 := Aside0.mk hc0
    have IH := Aside0.mk ih
    clear h hs hr0 hc2 hc0 ih
    go_enter Try.func80, Try.ntmps80
    go_wp2_with (go_at_call 88; (with_reducible refine (spec_l11Signs.calls k (l.length : Int) so s _ HS.out).mono ?_); rintro e w6 ⟨rfl, hb⟩; have HB6 := Aside0.mk (Drawn0.below hb); clear hb)
    go_loopg [5, 7] s.size (fun kq v5 v7 wr => ∃ (i : Nat) (best : Int), v5 = .int .i64 best ∧ v7 = .int .i64 (i : Int) ∧ Aside0 (i + kq = s.size) ∧ Aside0 (slp (sby k l (sval k l m) so) s kq i best = some r) ∧ Aside0 (Below w.heap.size w wr))
    case atStart => exact ⟨0, 0, rfl, rfl, ⟨by omega⟩, HL, HB6⟩
    case round =>
      clear HL HB6
      obtain ⟨i, best, rfl, rfl, HK, HL, HB⟩ := hrel
      by_cases hi : i < s.size
      · obtain ⟨k1, hk1⟩ : ∃ k1, gk = k1 + 1 := ⟨gk - 1, by have := HK.out; omega⟩
        subst hk1
        have hl := HL.out
        simp only [slp] at hl
        obtain ⟨mo, hm, hl⟩ := Option.bind_eq_some_iff.1 hl
        have HM := Aside0.mk hm
        have HL2 := Aside0.mk hl
        clear hm hl
        obtain ⟨x, hx⟩ : ∃ x : Int, (i : Int) = x := ⟨_, rfl⟩
        obtain ⟨y, hy⟩ : ∃ y : Int, (i : Int) + 1 = y := ⟨_, rfl⟩
        have hxs : x.toNat = i := by omega
        have hys : y.toNat = i + 1 := by omega
        have HM : Aside0 (sby k l (sval k l m) so (s.extract x.toNat y.toNat) = some mo) := ⟨by rw [hxs, hys]; exact HM.out⟩
        have E1 : wrap64 (x + 1) = y := by have := HC2.out; unfold wrap64; omega
        have E2 : IntKind.i64.wrap (x + 1) = y := (i64_w _).trans E1
        have p1b : decide (x < (s.size : Int)) = true := decide_eq_true (by omega)
        have p2 := eq_true (show y ≤ (s.size : Int) by omega)
        have p3 := eq_true (show x ≤ y by omega)
        have p4 := eq_true (show 0 ≤ x by omega)
        have p5 := eq_true (show 0 ≤ y by omega)
        have HX := Aside0.mk hx
        have HY := Aside0.mk hy
        have HI := Aside0.mk hi
        rw [hx]
        clear hx hy hxs hys hi
        by_cases h0 : i = 0
        · have hb0 : (x == 0) = true := beq_iff_eq.2 (by have := HX.out; omega)
          have HL3 : Aside0 (slp (sby k l (sval k l m) so) s k1 (i + 1) mo = some r) := ⟨by have h_ := HL2.out; rw [if_pos (.inl h0)] at h_; exact h_⟩
          clear h0 HL2
          go_wp2_with (go_at_call 89; (refine (by_calls k l m A c HC0.out IH.out so (s.extract x.toNat y.toNat) mo _ (Kd.C_below HR0.out HB.out) HM.out).mono ?_); rintro e w8 ⟨rfl, hb8⟩; have HB8 := Aside0.mk (below_step HB.out hb8); clear hb8)
          go_roundg k1
          case measure => omega
          case rel => exact ⟨i + 1, mo, rfl, by rw [← HY.out]; rfl, ⟨by have := HK.out; omega⟩, HL3, HB8⟩
        · have hb0 : (x == 0) = false := beq_eq_false_iff_ne.2 (by have := HX.out; omega)
          by_cases hgt : mo > best
          · have HL3 : Aside0 (slp (sby k l (sval k l m) so) s k1 (i + 1) mo = some r) := ⟨by have h_ := HL2.out; rw [if_pos (.inr hgt)] at h_; exact h_⟩
            have hgd : decide (best < mo) = true := decide_eq_true hgt
            clear HL2
            go_wp2_with (go_at_call 89; (refine (by_calls k l m A c HC0.out IH.out so (s.extract x.toNat y.toNat) mo _ (Kd.C_below HR0.out HB.out) HM.out).mono ?_); rintro e w8 ⟨rfl, hb8⟩; have HB8 := Aside0.mk (below_step HB.out hb8); clear hb8)
            go_roundg k1
            case measure => omega
            case rel => exact ⟨i + 1, mo, rfl, by rw [← HY.out]; rfl, ⟨by have := HK.out; omega⟩, HL3, HB8⟩
          · have HL3 : Aside0 (slp (sby k l (sval k l m) so) s k1 (i + 1) best = some r) := ⟨by have h_ := HL2.out; rw [if_neg (by rintro (h_ | h_); exact h0 h_; exact hgt h_)] at h_; exact h_⟩
            have hgd : decide (best < mo) = false := decide_eq_false hgt
            clear HL2
            go_wp2_with (go_at_call 89; (refine (by_calls k l m A c HC0.out IH.out so (s.extract x.toNat y.toNat) mo _ (Kd.C_below HR0.out HB.out) HM.out).mono ?_); rintro e w8 ⟨rfl, hb8⟩; have HB8 := Aside0.mk (below_step HB.out hb8); clear hb8)
            go_roundg k1
            case measure => omega
            case rel => exact ⟨i + 1, best, rfl, by rw [← HY.out]; rfl, ⟨by have := HK.out; omega⟩, HL3, HB8⟩
      · obtain rfl : i = s.size := by have := HK.out; omega
        obtain rfl : gk = 0 := by have := HK.out; omega
        have p1b : decide ((s.size : Int) < (s.size : Int)) = false := decide_eq_false (by omega)
        have hl := HL.out
        obtain rfl := Option.some.inj hl
        clear hl HL
        go_wp2
        go_ret
        exact ⟨rfl, HB.out⟩
def spec_l11Value.f (k : Nat) (l : List Int) (so : ByteArray) : Option Int := sval k l k so
theorem spec_l11Value.mono : ∀ a0 a1 k, LeO (spec_l11Value.f k a0 a1) (spec_l11Value.f (k + 1) a0 a1) := fun a0 a1 k => LeO.trans (sval_mono k a0 k a1) (sval_more (k + 1) a0 k a1)
theorem spec_l11Value.calls (k : Nat) (A0 : Option Addr) (c0 : Nat) (l0 : List Int) (a1 : ByteArray) (r : Int) (w : World) (hr0 : Kd.C (Kd.int .i64) w A0 l0.length l0) (hc0 : l0.length ≤ c0) (h : spec_l11Value.f k l0 a1 = some r) :
    Calls Try.prog 80 #[.slice A0 l0.length c0, .string a1] w fun e w' => e = .returned (.int .i64 r) ∧ Below w.heap.size w w' := sval_calls k l0 A0 c0 hc0 k a1 r w hr0 h
def spec_l11By.f (k : Nat) (l : List Int) (so sign : ByteArray) : Option Int := sby k l (sval k l k) so sign
theorem spec_l11By.mono : ∀ a0 a1 a2 k, LeO (spec_l11By.f k a0 a1 a2) (spec_l11By.f (k + 1) a0 a1 a2) := fun a0 a1 a2 k => sby_le (fun s => spec_l11Value.mono a0 s k) a1 a2
theorem spec_l11By.calls (k : Nat) (A0 : Option Addr) (c0 : Nat) (l0 : List Int) (a1 a2 : ByteArray) (r : Int) (w : World) (hr0 : Kd.C (Kd.int .i64) w A0 l0.length l0) (hc0 : l0.length ≤ c0) (h : spec_l11By.f k l0 a1 a2 = some r) :
    Calls Try.prog 89 #[.slice A0 l0.length c0, .string a1, .string a2] w fun e w' => e = .returned (.int .i64 r) ∧ Below w.heap.size w w' := by_calls k l0 k A0 c0 hc0 (sval_calls k l0 A0 c0 hc0 k) a1 a2 r w hr0 h

end Go.Proofs.Ytnoapomobflknaa.Xw
