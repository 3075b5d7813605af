/- impl.wordMean at any function value that tells numbers of texts; impl.ChanceOutput by it. -/
import Derived.Test.YtppfobgmbjjdhaaXo0
import Derived.Test.YtppfobgmbjjdhaaXo4
import Derived.Test.YtppfobgmbjjdhaaXo5
import Derived.Test.YtppfobgmbjjdhaaXo6
import Derived.OneCell
import Derived.Lib.SliceRun
import Derived.Shelf.Abstract
import Derived.Outline
import Derived.Deep.RegionHeld3
namespace Go.Proofs.Ytppfobgmbjjdhaa.Xo
open Go.RowKit Go.Proofs.YtppfobgmbjjdhaaW.PrintWords Go.Proofs.YtppfobgmbjjdhaaW.PrintLast Go.Proofs.YtppfobgmbjjdhaaW.PrintMore
attribute [local go_sem] max2_int min2_int max_two min_two max_three min_three max_four min_four
set_option linter.unusedVariables false
set_option linter.unusedSimpArgs false
theorem wm_cell_of_two {w : World} {b e : Nat} {v0 v1 : Value} (h : w.heap[b]? = some (.cells #[v0, v1] e (0, 0))) : w.cell? ⟨b, 0, none⟩ = some v0 ∧ w.cell? ⟨b, 1, none⟩ = some v1 := by
  constructor <;> simp [World.cell?, h]
theorem wm_free_of_two {w : World} {b e : Nat} {v0 v1 : Value} (h : w.heap[b]? = some (.cells #[v0, v1] e (0, 0))) : w.frozen? ⟨b, 0, none⟩ = false ∧ w.frozen? ⟨b, 1, none⟩ = false := by
  constructor <;> simp [World.frozen?, h]
def TellsW (P : Program) (g : Nat) (lb : Array Value) (F : ByteArray → Option Int) (S : World → Prop) : Prop :=
  ∀ (W : World) (x : ByteArray) (r : Int), F x = some r → S W → Calls P g (#[.string x] ++ lb) W fun e w' => e = .returned (.int .i64 r) ∧ Below W.heap.size W w'
theorem TellsW.at_ {P : Program} {g : Nat} {lb : Array Value} {F : ByteArray → Option Int} {S : World → Prop} (h : TellsW P g lb F S) (W : World) (x : ByteArray) (r : Int) (hF : F x = some r) (hW : S W) : Calls P g (#[.string x] ++ lb) W fun e w' => e = .returned (.int .i64 r) ∧ Below W.heap.size W w' := h W x r hF hW
def sumW (F : ByteArray → Option Int) : List ByteArray → Int → Option Int
  | [], s => some s
  | o :: t, s => (F o).bind fun x => sumW F t (wrap64 (s + x))
theorem sumW_le {F G : ByteArray → Option Int} (h : ∀ l, LeO (F l) (G l)) : ∀ l s, LeO (sumW F l s) (sumW G l s)
  | [], _ => LeO.refl _
  | o :: t, s => LeO.bind (h o) fun _ => sumW_le h t _
def wmeanF (k : Nat) (F : ByteArray → Option Int) (n : Int) (right : Bool) : Option (Int × Int × Bool) := (impl_isDrawn.f n).bind fun t => if (t && right) = true then (impl_words.f k (⟨#[]⟩ : ByteArray) n n ([] : List ByteArray)).bind fun l => if 0 < l.length ∧ l.length < 1000000 then (sumW F l 0).bind fun s => (impl_fraction.f k s (l.length : Int)).bind fun r => some (r.1, r.2, true) else none else some (0, 0, false)
theorem wmeanF_le {k : Nat} {F G : ByteArray → Option Int} (h : ∀ l, LeO (F l) (G l)) (n : Int) (right : Bool) : LeO (wmeanF k F n right) (wmeanF (k + 1) G n right) :=
  LeO.bind (LeO.refl _) fun _ => LeO.ite (LeO.bind (impl_words.mono _ _ _ _ _) fun _ => LeO.ite (LeO.bind (sumW_le h _ _) fun _ => LeO.bind (impl_fraction.mono _ _ _) fun _ => LeO.refl _) (LeO.none _)) (LeO.refl _)
def rdS (l : List ByteArray) (i : Nat) : ByteArray := l.getD i ⟨#[]⟩
theorem rdS_drop (l : List ByteArray) (i : Nat) (h : i < l.length) : l.drop i = rdS l i :: l.drop (i + 1) := by
  unfold rdS
  rw [List.drop_eq_getElem_cons h]
  simp [h]
theorem at_strs {w : World} {A : Option Addr} {n : Nat} {xs : List ByteArray} (h : Kd.C Kd.string w A n xs) (i : Nat) (h1 : i < n) : ∃ ad, A = some ad ∧ w.cell? (ad.add i) = some (.string (rdS xs i)) := by
  obtain ⟨ad, c, e, _, hK, hc0⟩ := Kd.C_get h (⟨#[]⟩ : ByteArray) (i : Int) (by omega) (by omega)
  rw [Int.toNat_natCast] at hK hc0
  have hc : ∀ j u, c[j]? = some u → w.cell? (ad.add (i * 1 + j)) = some u := hc0
  obtain rfl := hK
  exact ⟨ad, e, by have hq := hc 0 _ rfl; rwa [Nat.mul_one, Nat.add_zero] at hq⟩
set_option maxHeartbeats 8000000 in
set_option maxRecDepth 100000 in
theorem wordMean_calls (k : Nat) (g : Nat) (lb : Array Value) (eg : ∀ args w, (callFunc g args).run Try.prog w = .ok (.enter g args) w) (F : ByteArray → Option Int) (S : World → Prop) (hS : ∀ W W' : World, S W → Below W.heap.size W W' → S W')
    (ht : TellsW Try.prog g lb F S) (n : Int) (right : Bool) (r1 r2 : Int) (r3 : Bool) (w : World) (h : wmeanF k F n right = some (r1, r2, r3)) (h0 : S w) :
    Calls Try.prog 123 #[.int .i64 n, .bool right, .func (.func g) #[] lb] w fun e w' => e = .returned (.tuple #[.agg #[.int .i64 r1, .int .i64 r2], .bool r3]) ∧ Below w.heap.size w w' := by
  obtain ⟨t, ht1, h⟩ := Option.bind_eq_some_iff.1 h
  have hu := Try.underlying58
  have HT1 := Aside0.mk ht1
  have HT := Aside0.mk ht
  have HS := Aside0.mk hS
  have H0 := Aside0.mk h0
  have HB0 := Aside0.mk (below_alloc (Below.refl w.heap.size w) (.cells #[.int .i64 0, .int .i64 0] 58))
  have HX := Aside0.mk (blk_new w (.cells #[.int .i64 0, .int .i64 0] 58))
  clear ht1 ht hS h0
  by_cases hc : (t && right) = true
  · rw [if_pos hc] at h
    obtain ⟨l, hl, h⟩ := Option.bind_eq_some_iff.1 h
    have hlen : 0 < l.length ∧ l.length < 1000000 := by
      by_cases h0 : 0 < l.length ∧ l.length < 1000000
      · exact h0
      · rw [if_neg h0] at h
        cases h
    rw [if_pos hlen] at h
    obtain ⟨s, hs, h⟩ := Option.bind_eq_some_iff.1 h
    obtain ⟨⟨q1, q2⟩, hm, h⟩ := Option.bind_eq_some_iff.1 h
    have h' := Option.some.inj h
    simp only [Prod.mk.injEq] at h'
    obtain ⟨rfl, rfl, rfl⟩ := h'
    have HL := Aside0.mk hl
    have HLEN := Aside0.mk hlen
    have HSUM := Aside0.mk hs
    have HF := Aside0.mk hm
    simp only [Bool.and_eq_true] at hc
    obtain ⟨rfl, rfl⟩ := hc
    have HS1 := Aside0.mk (World.size_alloc w (.cells #[.int .i64 0, .int .i64 0] 58))
    clear h hl hlen hs hm
    go_enter Try.func123, Try.ntmps123
    go_wp2_with (first
      | (go_at_call 149; (with_reducible refine (impl_isDrawn.calls n true _ HT1.out).mono ?_); rintro e w5 ⟨rfl, hd⟩; have hb5 := Drawn0.below hd; have HB5 := Aside0.mk (below_step HB0.out hb5); have HX5 := Aside0.mk ((hb5.block _ (lt_of_block HX.out)).trans HX.out); clear hd hb5)
      | (go_at_call 114; (refine (impl_words.calls k (⟨#[]⟩ : ByteArray) n n (fun k_ => some k_ = (.slice none 0 0 : Value).ownBlock) (.slice none 0 0) ([] : List ByteArray) l w5 _ (Below.refl _ _) (Kd.R_nil _ _ _ _ _) HL.out).mono ?_); rintro e w6 ⟨v6, rfl, ho, hb, _⟩; obtain ⟨A6, c6, e6⟩ := Kd.R_slice ho; subst e6; have HO := Aside0.mk (Kd.R_reads' ho).2.2; have HB6 := Aside0.mk (below_step HB5.out hb); have HX6 := Aside0.mk ((hb.block _ (lt_of_block HX5.out)).trans HX5.out); clear ho hb))
    go_loopg [8, 25] l.length (fun kq v8 v25 w' => ∃ (i : Nat) (q : Int), v8 = .int .i64 q ∧ v25 = .int .i64 (i : Int) ∧ Aside0 (i + kq = l.length) ∧ Aside0 (sumW F (l.drop i) q = some s) ∧ Aside0 (w'.heap[w.heap.size]? = some (.cells #[.int .i64 0, .int .i64 0] 58 (0, 0))) ∧ Aside0 (Kd.C Kd.string w' A6 l.length l) ∧ Aside0 (Below w.heap.size w w'))
    case atStart => exact ⟨0, 0, rfl, rfl, ⟨by omega⟩, HSUM, HX6, HO, HB6⟩
    case round =>
      clear HO HB6 HX6 HSUM HX5 HB5
      obtain ⟨i, q, rfl, rfl, HK, HSUM, HX, HO, HB⟩ := hrel
      by_cases hi : i < l.length
      · obtain ⟨k1, hk1⟩ : ∃ k1, gk = k1 + 1 := ⟨gk - 1, by have := HK.out; omega⟩
        subst hk1
        have hd0 : decide (0 ≤ (i : Int)) = true := decide_eq_true (by omega)
        have hd1 : decide (i < l.length) = true := decide_eq_true hi
        have hsum := HSUM.out
        rw [rdS_drop l i hi] at hsum
        obtain ⟨x, hx, hsum⟩ := Option.bind_eq_some_iff.1 hsum
        obtain ⟨ad, eA, hcell⟩ := at_strs HO.out i hi
        subst eA
        have HFX := Aside0.mk hx
        have HSUM2 := Aside0.mk hsum
        have E1 := Aside0.mk (show wrap64 ((i : Int) + 1) = ((i + 1 : Nat) : Int) by have := HLEN.out; unfold wrap64; omega)
        clear hx hsum HSUM
        generalize rdS l i = o at hcell HFX
        go_wp2_with (go_at_fn g; (with_reducible refine (HT.out.at_ _ o x HFX.out ?_).mono ?_); (exact HS.out _ _ H0.out (by repeat (first | exact HB.out | apply pw_below_drewN | apply below_drew1))); rintro e w7 ⟨rfl, hb⟩; have HB7 := Aside0.mk (below_step HB.out hb); have HX7 := Aside0.mk ((hb.block _ (lt_of_block HX.out)).trans HX.out); have HO7 := Aside0.mk (Kd.C_below HO.out hb); clear hb)
        go_roundg k1
        case measure => omega
        case rel => exact ⟨i + 1, wrap64 (q + x), rfl, by rw [E1.out], ⟨by have := HK.out; omega⟩, HSUM2, HX7, HO7, HB7⟩
      · obtain rfl : i = l.length := by have := HK.out; omega
        have hs := HSUM.out
        rw [List.drop_length] at hs
        obtain rfl := Option.some.inj hs
        have fx := (wm_free_of_two HX.out).1
        have fx1 := (wm_free_of_two HX.out).2
        clear hs HSUM
        go_wp2_with (go_at_call 151; (with_reducible refine (impl_fraction.calls k _ _ q1 q2 _ HF.out).mono ?_); rintro e w9 ⟨rfl, hb⟩; have HB9 := Aside0.mk (below_step HB.out hb); have HX9 := Aside0.mk ((hb.block _ (lt_of_block HX.out)).trans HX.out); have c0 := (wm_cell_of_two HX9.out).1; have c1 := (wm_cell_of_two HX9.out).2; have f0 := (wm_free_of_two HX9.out).1; have f1 := (wm_free_of_two HX9.out).2; clear hb)
        have g0 := blk_put HX9.out 0 (.int .i64 q1) rfl
        have g1 := blk_put g0 1 (.int .i64 q2) rfl
        refine bodyPost_ret (v := .tuple #[.agg #[.int .i64 q1, .int .i64 q2], .bool true]) ?_ rfl ?_
        · exact results_list (rs := [.cell 6 58, .tmp 7]) rfl (by simp) (.cell w.heap.size 58 #[.int .i64 q1, .int .i64 q2] (0, 0) _ rfl g1 hu rfl (by kernel_rfl) (.tmp .nil))
        · exact ⟨rfl, below_set (below_set HB9.out (Nat.le_refl _)) (Nat.le_refl _)⟩
  · rw [if_neg hc] at h
    have h' := Option.some.inj h
    simp only [Prod.mk.injEq] at h'
    obtain ⟨rfl, rfl, rfl⟩ := h'
    have c0 := (wm_cell_of_two HX.out).1
    have c1 := (wm_cell_of_two HX.out).2
    have f0 := (wm_free_of_two HX.out).1
    have f1 := (wm_free_of_two HX.out).2
    clear h
    cases t with
    | false =>
      clear hc
      go_enter Try.func123, Try.ntmps123
      go_wp2_with (go_at_call 149; (with_reducible refine (impl_isDrawn.calls n false _ HT1.out).mono ?_); rintro e w6 ⟨rfl, ⟨nd, rfl⟩⟩)
      have g0 := blk_put (w := (w.alloc (.cells #[.int .i64 0, .int .i64 0] 58)).drewN nd) HX.out 0 (.int .i64 0) rfl
      have g1 := blk_put g0 1 (.int .i64 0) rfl
      refine bodyPost_ret (v := .tuple #[.agg #[.int .i64 0, .int .i64 0], .bool false]) ?_ rfl ?_
      · exact results_list (rs := [.cell 6 58, .tmp 7]) rfl (by simp) (.cell w.heap.size 58 #[.int .i64 0, .int .i64 0] (0, 0) _ rfl g1 hu rfl (by kernel_rfl) (.tmp .nil))
      · exact ⟨rfl, below_set (below_set (pw_below_drewN HB0.out _) (Nat.le_refl _)) (Nat.le_refl _)⟩
    | true =>
      cases right with
      | true => exact absurd rfl hc
      | false =>
        clear hc
        go_enter Try.func123, Try.ntmps123
        go_wp2_with (go_at_call 149; (with_reducible refine (impl_isDrawn.calls n true _ HT1.out).mono ?_); rintro e w6 ⟨rfl, ⟨nd, rfl⟩⟩)
        have g0 := blk_put (w := (w.alloc (.cells #[.int .i64 0, .int .i64 0] 58)).drewN nd) HX.out 0 (.int .i64 0) rfl
        have g1 := blk_put g0 1 (.int .i64 0) rfl
        refine bodyPost_ret (v := .tuple #[.agg #[.int .i64 0, .int .i64 0], .bool false]) ?_ rfl ?_
        · exact results_list (rs := [.cell 6 58, .tmp 7]) rfl (by simp) (.cell w.heap.size 58 #[.int .i64 0, .int .i64 0] (0, 0) _ rfl g1 hu rfl (by kernel_rfl) (.tmp .nil))
        · exact ⟨rfl, below_set (below_set (pw_below_drewN HB0.out _) (Nat.le_refl _)) (Nat.le_refl _)⟩
/-- What the closure tells of a word: 1 where the list comes out sorted. -/
def outF (k : Nat) (l : List Int) (x : ByteArray) : Option Int := (impl_runWord.f k l x).bind fun o => (impl_isSorted.f k o).bind fun b => if b = true then some 1 else some 0
def impl_ChanceOutput.f (k : Nat) (l : List Int) : Option (Int × Int × Bool) := (impl_isOrder.f k l).bind fun b => wmeanF k (outF k l) (l.length : Int) b
theorem impl_ChanceOutput.mono : ∀ a0 k, LeO (impl_ChanceOutput.f k a0) (impl_ChanceOutput.f (k + 1) a0) := fun a0 k =>
  LeO.bind (impl_isOrder.mono _ _) fun _ => wmeanF_le (fun x => LeO.bind (impl_runWord.mono _ _ _) fun _ => LeO.bind (impl_isSorted.mono _ _) fun _ => LeO.refl _) _ _
/-- The worlds behind the one in which the order was laid into its cell b. -/
def OutS (w : World) (b : Nat) (A : Option Addr) (c : Nat) (l : List Int) (W : World) : Prop := W.heap[b]? = some (.cells #[.slice A l.length c] 22 (0, 0)) ∧ Below w.heap.size w W
set_option maxHeartbeats 8000000 in
set_option maxRecDepth 100000 in
theorem output_tells (k : Nat) (w : World) (b : Nat) (A : Option Addr) (c : Nat) (l : List Int) (hr0 : Kd.C (Kd.int .i64) w A l.length l) (hc0 : l.length ≤ c) : TellsW Try.prog 124 #[.pointer (some ⟨b, 0, none⟩)] (outF k l) (OutS w b A c l) := by
  intro W x r hF hW
  show Calls Try.prog 124 #[.string x, .pointer (some ⟨b, 0, none⟩)] W _
  obtain ⟨o, ho, hF⟩ := Option.bind_eq_some_iff.1 hF
  obtain ⟨t, ht, hF⟩ := Option.bind_eq_some_iff.1 hF
  have hcell : W.cell? ⟨b, 0, none⟩ = some (.slice A l.length c) := by simp [World.cell?, hW.1]
  have HO := Aside0.mk ho
  have HT := Aside0.mk ht
  have HV := Aside0.mk (show Kd.V (Kd.int .i64) 3 W W.heap.size (fun k_ => k_ < w.heap.size) (.slice A l.length c) l from Kd.V_mk hc0 (Kd.F_below (Kd.C_F (Kd.heap_int .i64) hr0) hW.2))
  clear ho ht hr0 hc0
  cases t with
  | true =>
    obtain rfl := Option.some.inj hF
    go_enter Try.func124, Try.ntmps124
    go_wp2_with (first
      | (go_at_call 97; (refine (impl_runWord.calls k (fun k_ => k_ < w.heap.size) A c l x o _ HV.out HO.out).mono ?_); rintro e w6 ⟨v6, rfl, ho6, hb6⟩; obtain ⟨A6, c6, e6⟩ := Kd.R_slice ho6; subst e6; have HC6 := Aside0.mk (Kd.R_reads' ho6).2.2; have HL6 := Aside0.mk (Kd.R_reads' ho6).2.1; have HB6 := Aside0.mk hb6; clear ho6 hb6)
      | (go_at_call 88; (with_reducible refine (impl_isSorted.calls k A6 c6 o true _ HC6.out HL6.out HT.out).mono ?_); rintro e w7 ⟨rfl, hd⟩; have HB7 := Aside0.mk (below_step HB6.out (Drawn0.below hd)); clear hd))
    go_ret
    exact ⟨rfl, HB7.out⟩
  | false =>
    obtain rfl := Option.some.inj hF
    go_enter Try.func124, Try.ntmps124
    go_wp2_with (first
      | (go_at_call 97; (refine (impl_runWord.calls k (fun k_ => k_ < w.heap.size) A c l x o _ HV.out HO.out).mono ?_); rintro e w6 ⟨v6, rfl, ho6, hb6⟩; obtain ⟨A6, c6, e6⟩ := Kd.R_slice ho6; subst e6; have HC6 := Aside0.mk (Kd.R_reads' ho6).2.2; have HL6 := Aside0.mk (Kd.R_reads' ho6).2.1; have HB6 := Aside0.mk hb6; clear ho6 hb6)
      | (go_at_call 88; (with_reducible refine (impl_isSorted.calls k A6 c6 o false _ HC6.out HL6.out HT.out).mono ?_); rintro e w7 ⟨rfl, hd⟩; have HB7 := Aside0.mk (below_step HB6.out (Drawn0.below hd)); clear hd))
    go_ret
    exact ⟨rfl, HB7.out⟩
set_option maxHeartbeats 8000000 in
set_option maxRecDepth 100000 in
theorem impl_ChanceOutput.calls (k : Nat) (A0 : Option Addr) (c0 : Nat) (l0 : List Int) (r1_0 r1_1 : Int) (r2 : Bool) (w : World) (hr0 : Kd.C (Kd.int .i64) w A0 l0.length l0) (hc0 : l0.length ≤ c0) (h : impl_ChanceOutput.f k l0 = some (r1_0, r1_1, r2)) :
    Calls Try.prog 63 #[.slice A0 l0.length c0] w fun e w' => e = .returned (.tuple #[.agg #[.int .i64 r1_0, .int .i64 r1_1], .bool r2]) ∧ Below w.heap.size w w' := by
  obtain ⟨t, ht, h⟩ := Option.bind_eq_some_iff.1 h
  have hu := Try.underlying58
  have HT := Aside0.mk ht
  have HM := Aside0.mk h
  have HR0 := Aside0.mk (Kd.C_below hr0 (below_alloc (below_alloc (Below.refl w.heap.size w) (.cells #[.slice A0 l0.length c0] 22)) (.cells #[.int .i64 0, .int .i64 0] 58)))
  have HC0 := Aside0.mk hc0
  have HTL := Aside0.mk (output_tells k w w.heap.size A0 c0 l0 hr0 hc0)
  have HB2 := Aside0.mk (below_alloc (below_alloc (Below.refl w.heap.size w) (.cells #[.slice A0 l0.length c0] 22)) (.cells #[.int .i64 0, .int .i64 0] 58))
  have z1 := blk_alloc (blk_new w (.cells #[.slice A0 l0.length c0] 22)) (.cells #[.int .i64 0, .int .i64 0] 58)
  have z2 := blk_new (w.alloc (.cells #[.slice A0 l0.length c0] 22)) (.cells #[.int .i64 0, .int .i64 0] 58)
  rw [World.size_alloc] at z2
  have HX0 := Aside0.mk z1
  have HX1 := Aside0.mk z2
  have HSS : Aside0 (∀ W W' : World, OutS w w.heap.size A0 c0 l0 W → Below W.heap.size W W' → OutS w w.heap.size A0 c0 l0 W') := ⟨fun W W' h1 h2 => ⟨(h2.block _ (lt_of_block h1.1)).trans h1.1, below_step h1.2 h2⟩⟩
  have eg : ∀ args w, (callFunc 124 args).run Try.prog w = .ok (.enter 124 args) w := enters_of Try.func124 (by kernel_rfl) rfl
  clear z1 z2 ht h hr0 hc0
  go_enter Try.func63, Try.ntmps63
  go_wp2_with (fail)
  have hcell0 : ((w.alloc (.cells #[.slice A0 l0.length c0] 22)).alloc (.cells #[.int .i64 0, .int .i64 0] 58)).cell? ⟨w.heap.size, 0, none⟩ = some (.slice A0 l0.length c0) := by simp [World.cell?, HX0.out]
  go_region_held3 (fun W => W.cell? ⟨w.heap.size, 0, none⟩ = some (.slice A0 l0.length c0)) (first | assumption | exact hcell0 | go_keep)
    (first
    | (go_at_call 73; (with_reducible refine (impl_isOrder.calls k A0 c0 l0 t _ (by repeat (first | exact HR0.out | (with_reducible refine Kd.C_drewN ?_ _) | (with_reducible refine Kd.C_drew ?_))) HC0.out HT.out).mono ?_); rintro e w5 ⟨rfl, ⟨nd, rfl⟩⟩)
    | (go_at_call 123; (refine (wordMean_calls k 124 #[.pointer (some ⟨w.heap.size, 0, none⟩)] eg (outF k l0) (OutS w w.heap.size A0 c0 l0) HSS.out HTL.out (l0.length : Int) t r1_0 r1_1 r2 _ HM.out ?_).mono ?_); (exact ⟨HX0.out, by repeat (first | exact HB2.out | apply pw_below_drewN | apply below_drew1)⟩); rintro e w7 ⟨rfl, hb⟩; have hc7 : w7.cell? ⟨w.heap.size, 0, none⟩ = some (.slice A0 l0.length c0) := (by have hh := (hb.block w.heap.size (lt_of_block HX0.out)).trans HX0.out; simp [World.cell?, hh]); have HB7 := Aside0.mk (below_step (show Below w.heap.size w _ from by repeat (first | exact HB2.out | apply pw_below_drewN | apply below_drew1)) hb); have HX7 := Aside0.mk ((hb.block (w.heap.size + 1) (lt_of_block HX1.out)).trans HX1.out); have c0_ := (wm_cell_of_two HX7.out).1; have c1_ := (wm_cell_of_two HX7.out).2; have f0 := (wm_free_of_two HX7.out).1; have f1 := (wm_free_of_two HX7.out).2; clear hb))
  all_goals go_wp2
  all_goals have g0 := blk_put HX7.out 0 (.int .i64 r1_0) rfl
  all_goals have g1 := blk_put g0 1 (.int .i64 r1_1) rfl
  all_goals refine bodyPost_ret (v := .tuple #[.agg #[.int .i64 r1_0, .int .i64 r1_1], .bool r2]) ?_ rfl ?_
  all_goals first
    | exact results_list (rs := [.cell 2 58, .tmp 3]) rfl (by simp) (.cell (w.heap.size + 1) 58 #[.int .i64 r1_0, .int .i64 r1_1] (0, 0) _ rfl g1 hu rfl (by kernel_rfl) (.tmp .nil))
    | exact ⟨rfl, below_set (below_set HB7.out (by show w.heap.size ≤ w.heap.size + 1; omega)) (by show w.heap.size ≤ w.heap.size + 1; omega)⟩
    | exact ⟨rfl, below_drew (below_set (below_set HB7.out (by show w.heap.size ≤ w.heap.size + 1; omega)) (by show w.heap.size ≤ w.heap.size + 1; omega))⟩

end Go.Proofs.Ytppfobgmbjjdhaa.Xo
