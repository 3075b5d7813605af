/- Whether two places of an order are in conflict: slices.ContainsFunc at []int with a closure that reads what it has captured; impl.isConflict by it. -/
import Derived.Test.YtndpogefcpinfaaXk0
import Derived.OneCell
import Derived.Lib.SliceRun
import Derived.Shelf.Abstract
import Derived.Deep.RegionHeld3
import Derived.Outline
import Derived.BigQuiet
import Derived.Deep.QuietTactic
import Derived.RegionTactic
import Derived.BigRegion
namespace Go.Proofs.Ytndpogefcpinfaa.Xk
open Go.RowKit Go.Proofs.YtndpogefcpinfaaW.PrintWords Go.Proofs.YtndpogefcpinfaaW.PrintLast Go.Proofs.YtndpogefcpinfaaW.PrintMore
attribute [local go_sem] max2_int min2_int max_two min_two max_three min_three max_four min_four
set_option linter.unusedVariables false
set_option linter.unusedSimpArgs false
theorem cf_cell {w : World} {b e : Nat} {v : Value} (h : w.heap[b]? = some (.cells #[v] e (0, 0))) : w.cell? ⟨b, 0, none⟩ = some v := by simp [World.cell?, h]
/-- The first place at which p holds, -1 if there is none. -/
def fidxI (p : Int → Bool) : List Int → Int → Int
  | [], _ => -1
  | x :: t, i => if p x = true then i else fidxI p t (i + 1)
theorem rd_dropI (l : List Int) (i : Nat) (h : i < l.length) : l.drop i = rd l (i : Int) :: l.drop (i + 1) := by
  unfold rd
  rw [Int.toNat_natCast, List.drop_eq_getElem_cons h]
  simp [h]
theorem fidxI_any (p : Int → Bool) : ∀ (l : List Int) (i : Int), 0 ≤ i → (decide (0 ≤ fidxI p l i) = l.any p)
  | [], i, _ => by simp [fidxI]
  | y :: t, i, h => by
    cases hp : p y with
    | true => simp [fidxI, hp, h]
    | false => simp only [fidxI, hp, Bool.false_eq_true, ↓reduceIte, List.any_cons, Bool.false_or]; exact fidxI_any p t (i + 1) (by omega)
/-- A function value that tells p of numbers, in worlds with S; it may lay blocks. -/
def TellsP (P : Program) (g : Nat) (lb : Array Value) (p : Int → Bool) (S : World → Prop) : Prop :=
  ∀ (W : World) (x : Int), S W → Calls P g (#[.int .i64 x] ++ lb) W fun e w' => e = .returned (.bool (p x)) ∧ Below W.heap.size W w'
theorem TellsP.at_ {P : Program} {g : Nat} {lb : Array Value} {p : Int → Bool} {S : World → Prop} (h : TellsP P g lb p S) (W : World) (x : Int) (hW : S W) : Calls P g (#[.int .i64 x] ++ lb) W fun e w' => e = .returned (.bool (p x)) ∧ Below W.heap.size W w' := h W x hW
set_option maxHeartbeats 4000000 in
set_option maxRecDepth 100000 in
theorem IndexFunc_int (g : Nat) (lb : Array Value) (eg : ∀ args w, (callFunc g args).run Try.prog w = .ok (.enter g args) w) (p : Int → Bool) (S : World → Prop)
    (hS : ∀ W W' : World, S W → Below W.heap.size W W' → S W') (ht : TellsP Try.prog g lb p S) (A : Option Addr) (c : Nat) (l : List Int) (w : World) (hr : Kd.C (Kd.int .i64) w A l.length l) (hc : l.length ≤ c) (h0 : S w) :
    Calls Try.prog 90 #[.slice A l.length c, .func (.func g) #[] lb] w fun e w' => e = .returned (.int .i64 (fidxI p l 0)) ∧ Below w.heap.size w w' := by
  have HR := Aside0.mk hr
  have HC := Aside0.mk hc
  have H0 := Aside0.mk h0
  have HT := Aside0.mk ht
  have HS := Aside0.mk hS
  have hmax := Kd.C_max hr
  have HM := Aside0.mk hmax
  clear hr hc h0 ht hS hmax
  go_enter Try.func90, Try.ntmps90
  go_wp2
  go_loopg [8] l.length (fun kq v8 w' => ∃ (i : Nat), v8 = .int .i64 (i : Int) ∧ Aside0 (i + kq = l.length) ∧ Aside0 (fidxI p (l.drop i) (i : Int) = fidxI p l 0) ∧ Aside0 (Below w.heap.size w w') ∧ Aside0 (S w'))
  case atStart => exact ⟨0, rfl, ⟨by omega⟩, ⟨rfl⟩, ⟨Below.refl _ _⟩, H0⟩
  case round =>
    clear H0
    obtain ⟨i, rfl, HK, HF, HB, HW⟩ := hrel
    by_cases hi : i < l.length
    · obtain ⟨k1, hk1⟩ : ∃ k1, gk = k1 + 1 := ⟨gk - 1, by have := HK.out; omega⟩
      subst hk1
      have d1 : decide (i < l.length) = true := decide_eq_true hi
      obtain ⟨ad, hA, hcell⟩ := Kd.at_int (Kd.C_below HR.out HB.out) (i : Int) (by omega) (by omega)
      subst hA
      rw [Int.toNat_natCast] at hcell
      have d2 : decide (0 ≤ (i : Int)) = true := decide_eq_true (by omega)
      have e1 : wrap64 ((i : Int) + 1) = ((i + 1 : Nat) : Int) := by have := HM.out; unfold wrap64; omega
      have E1 := Aside0.mk e1
      have HX := Aside0.mk (rd_dropI l i hi)
      clear e1
      generalize rd l (i : Int) = x at hcell HX
      have HF1 : Aside0 ((if p x = true then (i : Int) else fidxI p (l.drop (i + 1)) ((i + 1 : Nat) : Int)) = fidxI p l 0) := ⟨by have h_ := HF.out; rw [HX.out] at h_; simpa only [fidxI, Int.natCast_add, Int.natCast_one] using h_⟩
      clear HF HX
      cases hp : p x with
      | true =>
        have HP := Aside0.mk hp
        clear hp
        go_wp2_with (go_at_fn g; (with_reducible refine (HT.out.at_ _ x ?_).mono ?_); (first | exact HW.out | exact HS.out _ _ HW.out (by repeat (first | exact Below.refl _ _ | apply pw_below_drewN | apply below_drew1))); rw [HP.out]; rintro e w6 ⟨rfl, hb⟩; have HB2 := Aside0.mk (below_step HB.out hb); clear hb)
        go_ret
        exact ⟨by rw [← HF1.out, if_pos HP.out]; rfl, HB2.out⟩
      | false =>
        have HP := Aside0.mk hp
        clear hp
        go_wp2_with (go_at_fn g; (with_reducible refine (HT.out.at_ _ x ?_).mono ?_); (first | exact HW.out | exact HS.out _ _ HW.out (by repeat (first | exact Below.refl _ _ | apply pw_below_drewN | apply below_drew1))); rw [HP.out]; rintro e w6 ⟨rfl, hb⟩; have HB2 := Aside0.mk (below_step HB.out hb); have HW2 := Aside0.mk (HS.out _ _ HW.out hb); clear hb)
        go_roundg k1
        case measure => omega
        case rel => exact ⟨i + 1, by rw [E1.out], ⟨by have := HK.out; omega⟩, ⟨by have h_ := HF1.out; rw [if_neg (by rw [HP.out]; decide)] at h_; exact h_⟩, HB2, HW2⟩
    · obtain rfl : i = l.length := by have := HK.out; omega
      have d1 : decide ((l.length : Int) < (l.length : Int)) = false := decide_eq_false (by omega)
      go_wp2
      go_ret
      exact ⟨by rw [← HF.out, List.drop_length]; rfl, HB.out⟩
set_option maxHeartbeats 4000000 in
set_option maxRecDepth 100000 in
theorem ContainsFunc_int (g : Nat) (lb : Array Value) (eg : ∀ args w, (callFunc g args).run Try.prog w = .ok (.enter g args) w) (p : Int → Bool) (S : World → Prop)
    (hS : ∀ W W' : World, S W → Below W.heap.size W W' → S W') (ht : TellsP Try.prog g lb p S) (A : Option Addr) (c : Nat) (l : List Int) (w : World) (hr : Kd.C (Kd.int .i64) w A l.length l) (hc : l.length ≤ c) (h0 : S w) :
    Calls Try.prog 75 #[.slice A l.length c, .func (.func g) #[] lb] w fun e w' => e = .returned (.bool (l.any p)) ∧ Below w.heap.size w w' := by
  have HI := Aside0.mk (IndexFunc_int g lb eg p S hS ht A c l w hr hc h0)
  have HA := Aside0.mk (fidxI_any p l 0 (Int.le_refl _))
  clear hr hc h0 hS ht
  generalize fidxI p l 0 = q at HI HA
  go_enter Try.func75, Try.ntmps75
  go_wp2_with (go_at_call 90; (refine HI.out.mono ?_); rintro e w6 ⟨rfl, hb⟩; have HB2 := Aside0.mk hb; clear hb)
  go_ret
  exact ⟨by rw [← HA.out]; first | rfl | simp, HB2.out⟩
theorem cf4_below {W W' : World} {p1 p2 p3 p4 : Addr} {v1 v2 v3 v4 : Value} (h : W.cell? p1 = some v1 ∧ W.cell? p2 = some v2 ∧ W.cell? p3 = some v3 ∧ W.cell? p4 = some v4) (hb : Below W.heap.size W W') : W'.cell? p1 = some v1 ∧ W'.cell? p2 = some v2 ∧ W'.cell? p3 = some v3 ∧ W'.cell? p4 = some v4 := ⟨(hb.cell (World.block_lt_of_cell? _ _ h.1)).trans h.1, (hb.cell (World.block_lt_of_cell? _ _ h.2.1)).trans h.2.1, (hb.cell (World.block_lt_of_cell? _ _ h.2.2.1)).trans h.2.2.1, (hb.cell (World.block_lt_of_cell? _ _ h.2.2.2)).trans h.2.2.2⟩
/-- The worlds in which the closure's two cells are as they were laid. -/
def ConfS (b : Nat) (A : Option Addr) (c : Nat) (l : List Int) (i : Nat) (W : World) : Prop := W.heap[b]? = some (.cells #[.slice A l.length c] 38 (0, 0)) ∧ W.heap[b + 1]? = some (.cells #[.int .i64 (i : Int)] 3 (0, 0)) ∧ Kd.C (Kd.int .i64) W A l.length l
theorem confS_below (b : Nat) (A : Option Addr) (c : Nat) (l : List Int) (i : Nat) (W W' : World) (h : ConfS b A c l i W) (hb : Below W.heap.size W W') : ConfS b A c l i W' := ⟨(hb.block _ (lt_of_block h.1)).trans h.1, (hb.block _ (lt_of_block h.2.1)).trans h.2.1, Kd.C_below h.2.2 hb⟩
set_option maxHeartbeats 4000000 in
set_option maxRecDepth 100000 in
theorem conf_tells (b : Nat) (A : Option Addr) (c : Nat) (l : List Int) (i : Nat) (hi : i < l.length) : TellsP Try.prog 76 #[.pointer (some ⟨b, 0, none⟩), .pointer (some ⟨b + 1, 0, none⟩)] (fun n => decide (n < rd l (i : Int))) (ConfS b A c l i) := by
  intro W x hW
  show Calls Try.prog 76 #[.int .i64 x, .pointer (some ⟨b, 0, none⟩), .pointer (some ⟨b + 1, 0, none⟩)] W _
  have h1 : W.cell? ⟨b, 0, none⟩ = some (.slice A l.length c) := cf_cell hW.1
  have h2 : W.cell? ⟨b + 1, 0, none⟩ = some (.int .i64 (i : Int)) := cf_cell hW.2.1
  obtain ⟨ad, hA, hcell⟩ := Kd.at_int hW.2.2 (i : Int) (by omega) (by omega)
  subst hA
  rw [Int.toNat_natCast] at hcell
  have d1 : decide (i < l.length) = true := decide_eq_true hi
  have d2 : decide (0 ≤ (i : Int)) = true := decide_eq_true (by omega)
  clear hW
  go_enter Try.func76, Try.ntmps76
  go_wp2
  go_ret
  exact ⟨rfl, by repeat (first | exact Below.refl _ _ | apply pw_below_drewN | apply below_drew1)⟩
def impl_isConflict.f (l : List Int) (a b : Int) : Option Bool := if 0 ≤ a ∧ a < l.length ∧ 0 ≤ b ∧ b < l.length then some (decide (rd l b > rd l a) && (l.drop (b.toNat + 1)).any fun n => decide (n < rd l a)) else none
set_option maxHeartbeats 8000000 in
set_option maxRecDepth 100000 in
theorem impl_isConflict.calls (A0 : Option Addr) (c0 : Nat) (l0 : List Int) (a1 a2 : Int) (r : Bool) (w : World) (hr0 : Kd.C (Kd.int .i64) w A0 l0.length l0) (hc0 : l0.length ≤ c0) (h : impl_isConflict.f l0 a1 a2 = some r) :
    Calls Try.prog 51 #[.slice A0 l0.length c0, .int .i64 a1, .int .i64 a2] w fun e w' => e = .returned (.bool r) ∧ Below w.heap.size w w' := by
  unfold impl_isConflict.f at h
  by_cases hc : 0 ≤ a1 ∧ a1 < l0.length ∧ 0 ≤ a2 ∧ a2 < l0.length
  · rw [if_pos hc] at h
    obtain ⟨hi0, hi1, hj0, hj1⟩ := hc
    obtain ⟨i, rfl⟩ : ∃ m : Nat, a1 = (m : Int) := ⟨a1.toNat, by omega⟩
    obtain ⟨j, rfl⟩ : ∃ m : Nat, a2 = (m : Int) := ⟨a2.toNat, by omega⟩
    have h := Option.some.inj h
    rw [Int.toNat_natCast] at h
    have hmax := Kd.C_max hr0
    obtain ⟨ad, hA, hcI⟩ := Kd.at_int hr0 (i : Int) (by omega) (by omega)
    obtain ⟨ad', hA', hcJ⟩ := Kd.at_int hr0 (j : Int) (by omega) (by omega)
    subst hA
    obtain rfl := Option.some.inj hA'
    rw [Int.toNat_natCast] at hcI hcJ
    obtain ⟨inf, hinf, _, hsz0, _⟩ := info_parts info3
    have e1 : wrap64 ((j : Int) + 1) = (j : Int) + 1 := by unfold wrap64; omega
    have e2 : IntKind.i64.wrap ((j : Int) + 1) = (j : Int) + 1 := (i64_w _).trans e1
    obtain ⟨A2, hcut, hrd, hlc⟩ := print_drop_of (P := Try.prog) (Value.int .i64) 0 38 3 .i64 Try.underlying38 hinf hsz0 (some ad) c0 l0 ((j : Int) + 1) (by omega) (by omega) hc0
    have hd : ((j : Int) + 1).toNat = j + 1 := by omega
    rw [hd] at hcut hrd hlc
    have htl : Kd.C (Kd.int .i64) w A2 (l0.drop (j + 1)).length (l0.drop (j + 1)) := Kd.C_of_reads (hrd w (Kd.reads_of_C hr0))
    have hS0 : ConfS w.heap.size (some ad) c0 l0 i ((w.alloc (.cells #[.slice (some ad) l0.length c0] 38)).alloc (.cells #[.int .i64 (i : Int)] 3)) := by
      have z1 := blk_alloc (blk_new w (.cells #[.slice (some ad) l0.length c0] 38)) (.cells #[.int .i64 (i : Int)] 3)
      have z2 := blk_new (w.alloc (.cells #[.slice (some ad) l0.length c0] 38)) (.cells #[.int .i64 (i : Int)] 3)
      rw [World.size_alloc] at z2
      exact ⟨z1, z2, Kd.C_alloc (Kd.C_alloc hr0 _) _⟩
    have hT := conf_tells w.heap.size (some ad) c0 l0 i (by omega)
    have eg : ∀ args w, (callFunc 76 args).run Try.prog w = .ok (.enter 76 args) w := enters_of Try.func76 (by kernel_rfl) rfl
    have hB2 : Below w.heap.size w ((w.alloc (.cells #[.slice (some ad) l0.length c0] 38)).alloc (.cells #[.int .i64 (i : Int)] 3)) := below_alloc (below_alloc (Below.refl w.heap.size w) _) _
    have hx0 : ((w.alloc (.cells #[.slice (some ad) l0.length c0] 38)).alloc (.cells #[.int .i64 (i : Int)] 3)).cell? ⟨w.heap.size, 0, none⟩ = some (.slice (some ad) l0.length c0) := cf_cell hS0.1
    have hx1 : ((w.alloc (.cells #[.slice (some ad) l0.length c0] 38)).alloc (.cells #[.int .i64 (i : Int)] 3)).cell? ⟨w.heap.size + 1, 0, none⟩ = some (.int .i64 (i : Int)) := cf_cell hS0.2.1
    have hx2 := (hB2.cell (World.block_lt_of_cell? _ _ hcI)).trans hcI
    have hx3 := (hB2.cell (World.block_lt_of_cell? _ _ hcJ)).trans hcJ
    have d1 : decide (i < l0.length) = true := decide_eq_true (by omega)
    have d2 : decide (j < l0.length) = true := decide_eq_true (by omega)
    have d3 : decide (0 ≤ (i : Int)) = true := decide_eq_true (by omega)
    have d4 : decide (0 ≤ (j : Int)) = true := decide_eq_true (by omega)
    have HX0 := Aside0.mk hx0
    have HX1 := Aside0.mk hx1
    have HX2 := Aside0.mk hx2
    have HX3 := Aside0.mk hx3
    have HS0 := Aside0.mk hS0
    have HB2 := Aside0.mk hB2
    have HT := Aside0.mk hT
    have HTL := Aside0.mk (Kd.C_below htl hB2)
    have HLC := Aside0.mk hlc
    have H := Aside0.mk h
    clear hr0 hc0 h hx0 hx1 hx2 hx3 hS0 hB2 hT htl hrd hcI hcJ hinf hsz0 hd hlc
    generalize l0.drop (j + 1) = t at hcut HTL HLC H
    generalize rd l0 (i : Int) = x at HX2 H HT
    generalize rd l0 (j : Int) = y at HX3 H
    cases hxy : decide (x < y) with
    | true =>
      have hr : t.any (fun n => decide (n < x)) = r := by have h_ : (decide (x < y) && t.any fun n => decide (n < x)) = r := H.out; rw [hxy, Bool.true_and] at h_; exact h_
      have HRR := Aside0.mk hr
      clear H hr
      go_enter Try.func51, Try.ntmps51
      go_wp2_with (fail)
      go_region_held3 (fun W => W.cell? ⟨w.heap.size, 0, none⟩ = some (.slice (some ad) l0.length c0) ∧ W.cell? ⟨w.heap.size + 1, 0, none⟩ = some (.int .i64 (i : Int)) ∧ W.cell? (ad.add i) = some (.int .i64 x) ∧ W.cell? (ad.add j) = some (.int .i64 y)) (first | exact ⟨HX0.out, HX1.out, HX2.out, HX3.out⟩ | exact cf4_below (by assumption) hb | go_keep)
        (first
        | (go_at_call 75; (refine (ContainsFunc_int 76 #[.pointer (some ⟨w.heap.size, 0, none⟩), .pointer (some ⟨w.heap.size + 1, 0, none⟩)] eg (fun n => decide (n < x)) (ConfS w.heap.size (some ad) c0 l0 i) (confS_below _ _ _ _ _) HT.out A2 (c0 - (j + 1)) t _ ?_ HLC.out ?_).mono ?_); (repeat (first | exact HTL.out | (with_reducible refine Kd.C_drewN ?_ _) | (with_reducible refine Kd.C_drew ?_))); (exact confS_below _ _ _ _ _ _ _ HS0.out (by repeat (first | exact Below.refl _ _ | apply pw_below_drewN | apply below_drew1))); rintro e w7 ⟨rfl, hb⟩; have HB7 := Aside0.mk (below_step (show Below w.heap.size w _ from by repeat (first | exact HB2.out | apply pw_below_drewN | apply below_drew1)) hb)))
      all_goals go_wp2
      all_goals go_ret
      all_goals refine ⟨by first | rfl | (rw [← HRR.out]; rfl), ?_⟩
      all_goals exact (by repeat (first | exact HB7.out | apply pw_below_drewN | apply below_drew1))
    | false =>
      have hr : false = r := by have h_ : (decide (x < y) && t.any fun n => decide (n < x)) = r := H.out; rw [hxy, Bool.false_and] at h_; exact h_
      subst hr
      clear H
      have hx0 := HX0.out
      have hx1 := HX1.out
      have hx2 := HX2.out
      have hx3 := HX3.out
      go_enter Try.func51, Try.ntmps51
      go_wp2_with (fail)
      repeat (go_quiet (fail); try go_wp2)
      all_goals go_ret
      all_goals exact ⟨rfl, by repeat (first | exact HB2.out | apply pw_below_drewN | apply below_drew1)⟩
  · rw [if_neg hc] at h
    cases h

end Go.Proofs.Ytndpogefcpinfaa.Xk
