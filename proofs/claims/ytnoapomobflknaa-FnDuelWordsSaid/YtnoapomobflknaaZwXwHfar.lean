/- The greatest value times a sign, and the first order with it: the reference. -/
import Derived.Test.YtnoapomobflknaaZwXw0
import Derived.Test.YtnoapomobflknaaZwXw11
import Derived.Test.YtnoapomobflknaaZwXw3
import Derived.Test.YtnoapomobflknaaZwXwHspecval
import Derived.Deep.RegionHeld3
namespace Go.Proofs.Ytnoapomobflknaa.Xw
open Go.RowKit Go.Proofs.YtnoapomobflknaaW.PrintWords Go.Proofs.YtnoapomobflknaaW.PrintLast Go.Proofs.YtnoapomobflknaaW.PrintMore
attribute [local go_sem] max2_int min2_int max_two min_two max_three min_three max_four min_four
set_option linter.unusedVariables false
set_option linter.unusedSimpArgs false
def rdL (l : List (List Int)) (i : Nat) : List Int := l.getD i []
theorem rdL_drop (l : List (List Int)) (i : Nat) (h : i < l.length) : l.drop i = rdL l i :: l.drop (i + 1) := by
  unfold rdL
  rw [List.drop_eq_getElem_cons h]
  simp [h]
/-- A row of the call's own rows: one of them. -/
theorem at_own {w : World} {base g n cap : Nat} {ok : Nat → Prop} {xs : List (List Int)} (h : Kd.S (Kd.slice 3 (Kd.int .i64)) 24 w base ok (.slice (some ⟨g, 0, none⟩) n cap) xs) (i : Nat) (h1 : i < n) : ∃ A0 c0, w.cell? ⟨g, i, none⟩ = some (.slice A0 (rdL xs i).length c0) ∧ Kd.R (Kd.int .i64) 3 w base (fun _ => True) (.slice A0 (rdL xs i).length c0) (rdL xs i) := by
  obtain ⟨c, _, hM, hc0⟩ := Kd.S_get h ([] : List Int) (i : Int) (by omega) (by omega)
  rw [Int.toNat_natCast] at hM hc0
  obtain ⟨v, rfl, hR⟩ := hM
  have hc : w.cell? ⟨g, i, none⟩ = some v := by
    have hq := hc0 0 v rfl
    rw [show i * (Kd.slice 3 (Kd.int .i64)).sz + 0 = i from by show i * 1 + 0 = i; omega] at hq
    rw [add_plain] at hq
    exact hq
  obtain ⟨A0, c0, rfl⟩ := Kd.R_slice hR
  exact ⟨A0, c0, hc, Kd.R_mono hR (fun _ _ => trivial)⟩
def farL (G : List Int → Option Int) (sign : Int) : List (List Int) → List Int → Int → Option (List Int × Int)
  | [], best, most => some (best, most)
  | o :: t, best, most => (G o).bind fun v => if wrap64 (sign * v) > most then farL G sign t o (wrap64 (sign * v)) else farL G sign t best most
def spec_l11Far.f (k : Nat) (n sign : Int) : Option (Int × List Int × Bool) := (spec_l1In.f n 1 5).bind fun b => if b = true then (spec_l2Orders.f k n).bind fun all => if 0 < all.length ∧ all.length < 1000000 then (spec_l11Value.f k (rdL all 0) (⟨#[]⟩ : ByteArray)).bind fun v => (farL (fun o => spec_l11Value.f k o (⟨#[]⟩ : ByteArray)) sign (all.drop 1) (rdL all 0) (wrap64 (sign * v))).bind fun r => some (wrap64 (sign * r.2), r.1, true) else none else some (0, ([] : List Int), false)
theorem farL_le {F G : List Int → Option Int} (h : ∀ l, LeO (F l) (G l)) (sign : Int) : ∀ l b m, LeO (farL F sign l b m) (farL G sign l b m)
  | [], _, _ => LeO.refl _
  | o :: t, _, _ => LeO.bind (h o) fun _ => LeO.ite (farL_le h sign t _ _) (farL_le h sign t _ _)
theorem spec_l11Far.mono : ∀ a0 a1 k, LeO (spec_l11Far.f k a0 a1) (spec_l11Far.f (k + 1) a0 a1) := fun a0 a1 k =>
  LeO.bind (LeO.refl _) fun _ => LeO.ite (LeO.bind (spec_l2Orders.mono _ _) fun _ => LeO.ite (LeO.bind (spec_l11Value.mono _ _ _) fun _ => LeO.bind (farL_le (fun l => spec_l11Value.mono l _ k) _ _ _ _) fun _ => LeO.refl _) (LeO.none _)) (LeO.refl _)
set_option maxHeartbeats 8000000 in
set_option maxRecDepth 100000 in
theorem spec_l11Far.calls (k : Nat) (a0 a1 : Int) (r1 : Int) (r2 : List Int) (r3 : Bool) (w : World) (h : spec_l11Far.f k a0 a1 = some (r1, r2, r3)) :
    Calls Try.prog 121 #[.int .i64 a0, .int .i64 a1] w fun e w' => ∃ v0_ : Value, e = .returned (.tuple #[.int .i64 r1, v0_, .bool r3]) ∧ Kd.R (Kd.int .i64) 3 w' w.heap.size (fun _ => True) v0_ r2 ∧ Below w.heap.size w w' := by
  obtain ⟨b, hb, h⟩ := Option.bind_eq_some_iff.1 h
  have HIN := Aside0.mk hb
  clear hb
  cases b with
  | false =>
    rw [if_neg Bool.false_ne_true] at h
    have h' := Option.some.inj h
    simp only [Prod.mk.injEq] at h'
    obtain ⟨rfl, rfl, rfl⟩ := h'
    clear h
    go_enter Try.func121, Try.ntmps121
    go_wp2_with (first
      | (go_at_call 141; (with_reducible refine (spec_l1In.calls a0 1 5 false _ HIN.out).mono ?_); rintro e w6 ⟨rfl, hb⟩; have HB6 := Aside0.mk (Drawn0.below hb); clear hb)
      | ((with_reducible refine gate_dst (N := 15) rfl ?_); refine Kd.R_lit (Kd.int .i64) _ 3 ?hg (N := 15) ?hd (xs := ([] : List Int)) (inner := []) (ok := fun _ => True) (okp := fun _ => True) ?hr ?hp (fun _ hk => hk) trivial (Below.refl _ _) (Nat.le_refl _) (by simp) ?_; (case hd => rfl); (case hg => rfl); (case hr => first | (go_simp; done) | (go_simp; rfl)); (case hp => exact (Reps.none _ _)); intro v16 w7 ho hb7 hg_ hnew_; have HO := Aside0.mk ho; have HB7 := Aside0.mk (below_step HB6.out hb7); clear hg_ hnew_ ho hb7))
    go_ret3
    exact ⟨_, rfl, Kd.R_lower HO.out HB6.out.size, HB7.out⟩
  | true =>
    rw [if_pos rfl] at h
    obtain ⟨all, hall, h⟩ := Option.bind_eq_some_iff.1 h
    have hc : 0 < all.length ∧ all.length < 1000000 := by
      by_cases h0 : 0 < all.length ∧ all.length < 1000000
      · exact h0
      · rw [if_neg h0] at h
        cases h
    rw [if_pos hc] at h
    obtain ⟨v, hv, h⟩ := Option.bind_eq_some_iff.1 h
    obtain ⟨⟨g1, g2⟩, hg, h⟩ := Option.bind_eq_some_iff.1 h
    have h' := Option.some.inj h
    simp only [Prod.mk.injEq] at h'
    obtain ⟨rfl, rfl, rfl⟩ := h'
    have HALL := Aside0.mk hall
    have HVV := Aside0.mk hv
    have HL := Aside0.mk hg
    have HC := Aside0.mk hc
    have HB0 := Aside0.mk (Below.refl w.heap.size w)
    clear h hall hv hg hc
    go_enter Try.func121, Try.ntmps121
    go_wp2_with (first
      | (go_at_call 141; (with_reducible refine (spec_l1In.calls a0 1 5 true _ HIN.out).mono ?_); rintro e w6 ⟨rfl, hb⟩; have HB6 := Aside0.mk (Drawn0.below hb); clear hb)
      | (go_at_call 154; (refine (spec_l2Orders.calls k a0 all _ HALL.out).mono ?_); rintro e w7 ⟨v7, rfl, ho, hb⟩; obtain ⟨g, cap, e7, _, _⟩ := Kd.S_form ho HC.out.1; subst e7; have HO := Aside0.mk (Kd.S_lower ho HB6.out.size); have HB7 := Aside0.mk (below_step HB6.out hb); clear ho hb))
    obtain ⟨A0, c0, hx0, hR0⟩ := at_own HO.out 0 HC.out.1
    have HX0 := Aside0.mk hx0
    have HR0 := Aside0.mk hR0
    obtain ⟨_, hl0, hC0⟩ := Kd.R_reads' hR0
    have HL0 := Aside0.mk hl0
    have HC0 := Aside0.mk hC0
    obtain ⟨len, hlen⟩ : ∃ len, len = all.length := ⟨_, rfl⟩
    have hd1 : decide ((0 : Int) < (all.length : Int)) = true := decide_eq_true (by have := HC.out; omega)
    have hd2 : decide (0 < all.length) = true := decide_eq_true HC.out.1
    have hp1 := HC.out.1
    generalize (rdL all 0) = o at hx0 HX0 HR0 HL0 HC0 HVV HL
    clear hR0 hl0 hC0
    go_region_held3 (fun W => W.cell? ⟨g, 0, none⟩ = some (.slice A0 o.length c0) ∧ Below w7.heap.size w7 W) (first | exact ⟨HX0.out, Below.refl _ _⟩ | exact ⟨HX0.out, below_drew (Below.refl _ _)⟩ | (refine ⟨?_, ?_⟩; (exact (hb8.cell (World.block_lt_of_cell? _ _ (And.left (by assumption)))).trans (And.left (by assumption))); (exact below_step (And.right (by assumption)) hb8)))
      (first | (go_at_call 80; (refine (spec_l11Value.calls k A0 c0 o (⟨#[]⟩ : ByteArray) v _ (Kd.C_below HC0.out (And.right (by assumption))) HL0.out HVV.out).mono ?_); rintro e w8 ⟨rfl, hb8⟩))
    rename_i hH
    have HW8 := Aside0.mk hH.2
    have HO8 := Aside0.mk (Kd.S_below HO.out hH.2)
    have HR8 := Aside0.mk (Kd.R_below HR0.out hH.2)
    have HB8 := Aside0.mk (below_step HB7.out hH.2)
    clear hH hb8 HX0 hx0 HR0 HL0 HC0 HVV HB7 HO hlen hd1 hd2 hp1
    go_wp2
    go_loopg [8, 9, 10] (all.length - 1) (fun kq v8 v9 v10 wr => ∃ (i : Nat) (best : List Int) (most : Int) (Ab : Option Addr) (cb : Nat), v8 = .slice Ab best.length cb ∧ v9 = .int .i64 most ∧ v10 = .int .i64 (i : Int) ∧ Aside0 (i + kq = all.length) ∧ Aside0 (farL (fun o => spec_l11Value.f k o (⟨#[]⟩ : ByteArray)) a1 (all.drop i) best most = some (g1, g2)) ∧ Aside0 (Kd.R (Kd.int .i64) 3 wr w.heap.size (fun _ => True) (.slice Ab best.length cb) best) ∧ Aside0 (Kd.S (Kd.slice 3 (Kd.int .i64)) 24 wr w.heap.size (fun _ => True) (.slice (some ⟨g, 0, none⟩) all.length cap) all) ∧ Aside0 (Below w.heap.size w wr))
    case atStart => exact ⟨1, o, wrap64 (a1 * v), A0, c0, rfl, by rw [i64_w], rfl, ⟨by have := HC.out; omega⟩, HL, HR8, HO8, HB8⟩
    case round =>
      clear HL HR8 HO8 HB8 HW8
      obtain ⟨i, best, most, Ab, cb, rfl, rfl, rfl, HK, HL, HR, HO, HB⟩ := hrel
      by_cases hi : i < all.length
      · obtain ⟨k1, hk1⟩ : ∃ k1, gk = k1 + 1 := ⟨gk - 1, by have := HK.out; omega⟩
        subst hk1
        have hd0 : decide (0 ≤ (i : Int)) = true := decide_eq_true (by omega)
        have hd1 : decide (i < all.length) = true := decide_eq_true hi
        have hl := HL.out
        rw [rdL_drop all i hi] at hl
        obtain ⟨x, hx, hl⟩ := Option.bind_eq_some_iff.1 hl
        obtain ⟨A1, c1, hcell, hR1⟩ := at_own HO.out i hi
        obtain ⟨_, hl1, hC1⟩ := Kd.R_reads' hR1
        obtain ⟨y, hy⟩ : ∃ y, wrap64 (a1 * x) = y := ⟨_, rfl⟩
        rw [hy] at hl
        have hyw : IntKind.i64.wrap (a1 * x) = y := (i64_w _).trans hy
        have HFX := Aside0.mk hx
        have HL2 := Aside0.mk hl
        have HR1 := Aside0.mk hR1
        have HLC := Aside0.mk hl1
        have HC1 := Aside0.mk hC1
        have E1 := Aside0.mk (show wrap64 ((i : Int) + 1) = ((i + 1 : Nat) : Int) by have := HC.out; unfold wrap64; omega)
        clear hx hl hR1 hl1 hC1 HL
        generalize rdL all i = o1 at hcell HFX HLC HC1 HR1 HL2
        by_cases hgt : y > most
        · have HL3 : Aside0 (farL (fun o => spec_l11Value.f k o (⟨#[]⟩ : ByteArray)) a1 (all.drop (i + 1)) o1 y = some (g1, g2)) := ⟨by have h_ := HL2.out; rw [if_pos hgt] at h_; exact h_⟩
          have hgd : decide (most < y) = true := decide_eq_true hgt
          clear HL2 hgt
          go_wp2_with (go_at_call 80; (refine (spec_l11Value.calls k A1 c1 o1 (⟨#[]⟩ : ByteArray) x _ HC1.out HLC.out HFX.out).mono ?_); rintro e w9 ⟨rfl, hb9⟩; have hcell9 := (hb9.cell (World.block_lt_of_cell? _ _ hcell)).trans hcell; have HB9 := Aside0.mk (below_step HB.out hb9); have HO9 := Aside0.mk (Kd.S_below HO.out hb9); have HRB := Aside0.mk (Kd.R_below HR.out hb9); have HRO := Aside0.mk (Kd.R_below HR1.out hb9); clear hb9)
          go_roundg k1
          case measure => omega
          case rel => exact ⟨i + 1, o1, y, A1, c1, rfl, rfl, by rw [E1.out], ⟨by have := HK.out; omega⟩, HL3, HRO, HO9, HB9⟩
        · have HL3 : Aside0 (farL (fun o => spec_l11Value.f k o (⟨#[]⟩ : ByteArray)) a1 (all.drop (i + 1)) best most = some (g1, g2)) := ⟨by have h_ := HL2.out; rw [if_neg hgt] at h_; exact h_⟩
          have hgd : decide (most < y) = false := decide_eq_false hgt
          clear HL2 hgt
          go_wp2_with (go_at_call 80; (refine (spec_l11Value.calls k A1 c1 o1 (⟨#[]⟩ : ByteArray) x _ HC1.out HLC.out HFX.out).mono ?_); rintro e w9 ⟨rfl, hb9⟩; have hcell9 := (hb9.cell (World.block_lt_of_cell? _ _ hcell)).trans hcell; have HB9 := Aside0.mk (below_step HB.out hb9); have HO9 := Aside0.mk (Kd.S_below HO.out hb9); have HRB := Aside0.mk (Kd.R_below HR.out hb9); have HRO := Aside0.mk (Kd.R_below HR1.out hb9); clear hb9)
          go_roundg k1
          case measure => omega
          case rel => exact ⟨i + 1, best, most, Ab, cb, rfl, rfl, by rw [E1.out], ⟨by have := HK.out; omega⟩, HL3, HRB, HO9, HB9⟩
      · obtain rfl : i = all.length := by have := HK.out; omega
        have hl := HL.out
        rw [List.drop_length] at hl
        have h' := Option.some.inj hl
        simp only [Prod.mk.injEq] at h'
        obtain ⟨rfl, rfl⟩ := h'
        clear hl HL
        go_wp2
        go_ret3
        exact ⟨_, rfl, HR.out, HB.out⟩

end Go.Proofs.Ytnoapomobflknaa.Xw
