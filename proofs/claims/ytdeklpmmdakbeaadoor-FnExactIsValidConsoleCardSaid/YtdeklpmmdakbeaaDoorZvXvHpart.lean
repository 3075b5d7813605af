/- The numbers of an array ahead of its zeros: spec.l12Part, impl.partOf. -/
import Derived.Test.YtdeklpmmdakbeaaDoorZvXv0
import Derived.Test.YtdeklpmmdakbeaaDoorZvXvHarr7
import Derived.Test.YtdeklpmmdakbeaaDoorZvXvHclone
import Derived.OneCell
import Derived.Lib.SliceRun
import Derived.Shelf.Abstract
import Derived.Deep.RegionHeld3
import Derived.Outline
import Derived.BigQuiet
import Derived.Deep.QuietTactic
import Derived.RegionTactic
import Derived.BigRegion
namespace Go.Proofs.YtdeklpmmdakbeaaDoor.Xv
open Go.RowKit Go.Proofs.YtdeklpmmdakbeaaDoorW.PrintWords Go.Proofs.YtdeklpmmdakbeaaDoorW.PrintLast Go.Proofs.YtdeklpmmdakbeaaDoorW.PrintMore
attribute [local go_sem] max2_int min2_int max_two min_two max_three min_three max_four min_four
set_option linter.unusedVariables false
set_option linter.unusedSimpArgs false
/-- The first place at which p holds, -1 if there is none. -/
def fidxI (p : Int → Bool) : List Int → Int → Int
  | [], _ => -1
  | x :: t, i => if p x = true then i else fidxI p t (i + 1)
theorem rd_dropI (l : List Int) (i : Nat) (h : i < l.length) : l.drop i = rd l (i : Int) :: l.drop (i + 1) := by
  unfold rd
  rw [Int.toNat_natCast, List.drop_eq_getElem_cons h]
  simp [h]
theorem fidxI_any (p : Int → Bool) : ∀ (l : List Int) (i : Int), 0 ≤ i → (decide (0 ≤ fidxI p l i) = l.any p)
  | [], i, _ => by simp [fidxI]
  | y :: t, i, h => by
    cases hp : p y with
    | true => simp [fidxI, hp, h]
    | false => simp only [fidxI, hp, Bool.false_eq_true, ↓reduceIte, List.any_cons, Bool.false_or]; exact fidxI_any p t (i + 1) (by omega)
/-- A function value that tells p of numbers, in worlds with S; it may lay blocks. -/
def TellsP (P : Program) (g : Nat) (lb : Array Value) (p : Int → Bool) (S : World → Prop) : Prop :=
  ∀ (W : World) (x : Int), S W → Calls P g (#[.int .i64 x] ++ lb) W fun e w' => e = .returned (.bool (p x)) ∧ Below W.heap.size W w'
theorem TellsP.at_ {P : Program} {g : Nat} {lb : Array Value} {p : Int → Bool} {S : World → Prop} (h : TellsP P g lb p S) (W : World) (x : Int) (hW : S W) : Calls P g (#[.int .i64 x] ++ lb) W fun e w' => e = .returned (.bool (p x)) ∧ Below W.heap.size W w' := h W x hW
set_option maxHeartbeats 4000000 in
set_option maxRecDepth 100000 in
theorem IndexFunc_int (g : Nat) (lb : Array Value) (eg : ∀ args w, (callFunc g args).run Tryd.prog w = .ok (.enter g args) w) (p : Int → Bool) (S : World → Prop)
    (hS : ∀ W W' : World, S W → Below W.heap.size W W' → S W') (ht : TellsP Tryd.prog g lb p S) (A : Option Addr) (c : Nat) (l : List Int) (w : World) (hr : Kd.C (Kd.int .i64) w A l.length l) (hc : l.length ≤ c) (h0 : S w) :
    Calls Tryd.prog 47 #[.slice A l.length c, .func (.func g) #[] lb] w fun e w' => e = .returned (.int .i64 (fidxI p l 0)) ∧ Below w.heap.size w w' := by
  have HR := Aside0.mk hr
  have HC := Aside0.mk hc
  have H0 := Aside0.mk h0
  have HT := Aside0.mk ht
  have HS := Aside0.mk hS
  have hmax := Kd.C_max hr
  have HM := Aside0.mk hmax
  clear hr hc h0 ht hS hmax
  go_enter Tryd.func47, Tryd.ntmps47
  go_wp2
  go_loopg [8] l.length (fun kq v8 w' => ∃ (i : Nat), v8 = .int .i64 (i : Int) ∧ Aside0 (i + kq = l.length) ∧ Aside0 (fidxI p (l.drop i) (i : Int) = fidxI p l 0) ∧ Aside0 (Below w.heap.size w w') ∧ Aside0 (S w'))
  case atStart => exact ⟨0, rfl, ⟨by omega⟩, ⟨rfl⟩, ⟨Below.refl _ _⟩, H0⟩
  case round =>
    clear H0
    obtain ⟨i, rfl, HK, HF, HB, HW⟩ := hrel
    by_cases hi : i < l.length
    · obtain ⟨k1, hk1⟩ : ∃ k1, gk = k1 + 1 := ⟨gk - 1, by have := HK.out; omega⟩
      subst hk1
      have d1 : decide (i < l.length) = true := decide_eq_true hi
      obtain ⟨ad, hA, hcell⟩ := Kd.at_int (Kd.C_below HR.out HB.out) (i : Int) (by omega) (by omega)
      subst hA
      rw [Int.toNat_natCast] at hcell
      have d2 : decide (0 ≤ (i : Int)) = true := decide_eq_true (by omega)
      have e1 : wrap64 ((i : Int) + 1) = ((i + 1 : Nat) : Int) := by have := HM.out; unfold wrap64; omega
      have E1 := Aside0.mk e1
      have HX := Aside0.mk (rd_dropI l i hi)
      clear e1
      generalize rd l (i : Int) = x at hcell HX
      have HF1 : Aside0 ((if p x = true then (i : Int) else fidxI p (l.drop (i + 1)) ((i + 1 : Nat) : Int)) = fidxI p l 0) := ⟨by have h_ := HF.out; rw [HX.out] at h_; simpa only [fidxI, Int.natCast_add, Int.natCast_one] using h_⟩
      clear HF HX
      cases hp : p x with
      | true =>
        have HP := Aside0.mk hp
        clear hp
        go_wp2_with (go_at_fn g; (with_reducible refine (HT.out.at_ _ x ?_).mono ?_); (first | exact HW.out | exact HS.out _ _ HW.out (by repeat (first | exact Below.refl _ _ | apply pw_below_drewN | apply below_drew1))); rw [HP.out]; rintro e w6 ⟨rfl, hb⟩; have HB2 := Aside0.mk (below_step HB.out hb); clear hb)
        go_ret
        exact ⟨by rw [← HF1.out, if_pos HP.out]; rfl, HB2.out⟩
      | false =>
        have HP := Aside0.mk hp
        clear hp
        go_wp2_with (go_at_fn g; (with_reducible refine (HT.out.at_ _ x ?_).mono ?_); (first | exact HW.out | exact HS.out _ _ HW.out (by repeat (first | exact Below.refl _ _ | apply pw_below_drewN | apply below_drew1))); rw [HP.out]; rintro e w6 ⟨rfl, hb⟩; have HB2 := Aside0.mk (below_step HB.out hb); have HW2 := Aside0.mk (HS.out _ _ HW.out hb); clear hb)
        go_roundg k1
        case measure => omega
        case rel => exact ⟨i + 1, by rw [E1.out], ⟨by have := HK.out; omega⟩, ⟨by have h_ := HF1.out; rw [if_neg (by rw [HP.out]; decide)] at h_; exact h_⟩, HB2, HW2⟩
    · obtain rfl : i = l.length := by have := HK.out; omega
      have d1 : decide ((l.length : Int) < (l.length : Int)) = false := decide_eq_false (by omega)
      go_wp2
      go_ret
      exact ⟨by rw [← HF.out, List.drop_length]; rfl, HB.out⟩
set_option maxHeartbeats 4000000 in
set_option maxRecDepth 100000 in
theorem ContainsFunc_int (g : Nat) (lb : Array Value) (eg : ∀ args w, (callFunc g args).run Tryd.prog w = .ok (.enter g args) w) (p : Int → Bool) (S : World → Prop)
    (hS : ∀ W W' : World, S W → Below W.heap.size W W' → S W') (ht : TellsP Tryd.prog g lb p S) (A : Option Addr) (c : Nat) (l : List Int) (w : World) (hr : Kd.C (Kd.int .i64) w A l.length l) (hc : l.length ≤ c) (h0 : S w) :
    Calls Tryd.prog 37 #[.slice A l.length c, .func (.func g) #[] lb] w fun e w' => e = .returned (.bool (l.any p)) ∧ Below w.heap.size w w' := by
  have HI := Aside0.mk (IndexFunc_int g lb eg p S hS ht A c l w hr hc h0)
  have HA := Aside0.mk (fidxI_any p l 0 (Int.le_refl _))
  clear hr hc h0 hS ht
  generalize fidxI p l 0 = q at HI HA
  go_enter Tryd.func37, Tryd.ntmps37
  go_wp2_with (go_at_call 47; (refine HI.out.mono ?_); rintro e w6 ⟨rfl, hb⟩; have HB2 := Aside0.mk hb; clear hb)
  go_ret
  exact ⟨by rw [← HA.out]; first | rfl | simp, HB2.out⟩
/-- The numbers ahead of the first zero. -/
def tw (p : Nat → Int) : List Int := (m7 p).takeWhile (· != 0)
/-- Whether zeros alone follow. -/
def zr (p : Nat → Int) : Bool := !((m7 p).dropWhile (· != 0)).any (· != 0)
theorem m7_get (p : Nat → Int) (k : Nat) (h : k < 7) : (m7 p)[k]? = some (p k) := by
  rcases seven h with rfl | rfl | rfl | rfl | rfl | rfl | rfl <;> rfl
theorem eight {i : Nat} (h : i ≤ 7) : i = 0 ∨ i = 1 ∨ i = 2 ∨ i = 3 ∨ i = 4 ∨ i = 5 ∨ i = 6 ∨ i = 7 := by omega
theorem tw_at (p : Nat → Int) (i : Nat) (hi : i ≤ 7) (h : ∀ j, j < i → p j ≠ 0) (he : i = 7 ∨ p i = 0) : (m7 p).takeWhile (· != 0) = (m7 p).take i ∧ (m7 p).dropWhile (· != 0) = (m7 p).drop i := by
  have h0 : 0 < i → p 0 ≠ 0 := h 0
  have h1 : 1 < i → p 1 ≠ 0 := h 1
  have h2 : 2 < i → p 2 ≠ 0 := h 2
  have h3 : 3 < i → p 3 ≠ 0 := h 3
  have h4 : 4 < i → p 4 ≠ 0 := h 4
  have h5 : 5 < i → p 5 ≠ 0 := h 5
  have h6 : 6 < i → p 6 ≠ 0 := h 6
  rcases eight hi with rfl | rfl | rfl | rfl | rfl | rfl | rfl | rfl <;> simp_all [m7]
theorem m7_take (p : Nat → Int) (i : Nat) (h : i < 7) : (m7 p).take (i + 1) = (m7 p).take i ++ [p i] := by
  rcases seven h with rfl | rfl | rfl | rfl | rfl | rfl | rfl <;> rfl
theorem add_at (b i j : Nat) : (⟨b, i, none⟩ : Addr).add j = ⟨b, i + j, none⟩ := by unfold Addr.add; split <;> simp_all
theorem arr_pre {w : World} {b e : Nat} {p : Nat → Int} (h : w.heap[b]? = some (.cells (arr (m7 p)) e (0, 0))) (i : Nat) (hi : i ≤ 7) : Kd.C (Kd.int .i64) w (some ⟨b, 0, none⟩) ((m7 p).take i).length ((m7 p).take i) := by
  have hl : ((m7 p).take i).length = i := by rw [List.length_take]; show min i 7 = i; omega
  refine Kd.C_of_reads (d := (0 : Int)) ⟨rfl, by omega, fun _ => ⟨_, rfl, fun j hj => ?_⟩⟩
  rw [add_at, Nat.zero_add, arr_cell h j (by omega)]
  congr 2
  rw [List.getD_eq_getElem?_getD, List.getElem?_take_of_lt (by omega), m7_get p j (by omega)]
  rfl
theorem arr_suf {w : World} {b e : Nat} {p : Nat → Int} (h : w.heap[b]? = some (.cells (arr (m7 p)) e (0, 0))) (i : Nat) (hi : i ≤ 7) : Kd.C (Kd.int .i64) w (some (if 7 = i then ⟨b, 0, none⟩ else ⟨b, i, none⟩)) ((m7 p).drop i).length ((m7 p).drop i) := by
  have hl : ((m7 p).drop i).length = 7 - i := by rw [List.length_drop]; rfl
  refine Kd.C_of_reads (d := (0 : Int)) ⟨rfl, by omega, fun h0 => ⟨_, rfl, fun j hj => ?_⟩⟩
  rw [if_neg (by omega), add_at, arr_cell h (i + j) (by omega)]
  congr 2
  rw [List.getD_eq_getElem?_getD, List.getElem?_drop, m7_get p (i + j) (by omega)]
  rfl
theorem cut7_to (p : Nat → Int) (i : Nat) (hi : i ≤ 7) : ∀ (W : World) (b : Nat), (Instr.sliceAt 22 (.pointer (some ⟨b, 0, none⟩)) none (some (.int .i64 (i : Int))) none).run Tryd.prog W = .ok (.slice (some ⟨b, 0, none⟩) ((m7 p).take i).length 7) W := by
  intro W b
  rcases eight hi with rfl | rfl | rfl | rfl | rfl | rfl | rfl | rfl <;> kernel_rfl
theorem cut7_from (p : Nat → Int) (i : Nat) (hi : i ≤ 7) : ∀ (W : World) (b : Nat), (Instr.sliceAt 22 (.pointer (some ⟨b, 0, none⟩)) (some (.int .i64 (i : Int))) none none).run Tryd.prog W = .ok (.slice (some (if 7 = i then ⟨b, 0, none⟩ else ⟨b, i, none⟩)) ((m7 p).drop i).length (7 - i)) W := by
  intro W b
  rcases eight hi with rfl | rfl | rfl | rfl | rfl | rfl | rfl | rfl <;> kernel_rfl
set_option maxHeartbeats 8000000 in
set_option maxRecDepth 100000 in
theorem l12Part_walk (p : Nat → Int) (w : World) :
    Calls Tryd.prog 15 #[.agg (arr (m7 p))] w fun e w' => ∃ v0_ : Value, e = .returned v0_ ∧ Kd.R (Kd.int .i64) 3 w' w.heap.size (fun _ => True) v0_ (tw p) ∧ Below w.heap.size w w' := by
  have z1 := blk_new w (.cells (arr (m7 p)) 22)
  obtain ⟨w1, hw1⟩ : ∃ w1, w1 = w.alloc (.cells (arr (m7 p)) 22) := ⟨_, rfl⟩
  have HB0 := Aside0.mk (show Below w.heap.size w w1 by rw [hw1]; exact below_alloc (Below.refl _ _) _)
  rw [← hw1] at z1
  have Z1 := Aside0.mk z1
  have HL1 := Aside0.mk (lt_of_block z1)
  clear z1
  go_enter Tryd.func15, Tryd.ntmps15
  go_wp2_with (first
    | ((with_reducible refine gate_dst (N := 5) rfl ?_); refine Kd.R_lit (Kd.int .i64) (w0 := w1) w1.heap.size 3 ?hg (N := 5) ?hd (xs := ([] : List Int)) (inner := []) (ok := fun _ => True) (okp := fun _ => True) ?hr ?hp (fun _ hk => hk) trivial ?hB ?hb2 (by simp) ?_; (case hd => rfl); (case hg => rfl); (case hr => first | (go_simp; done) | (go_simp; rfl)); (case hp => exact (Reps.none _ _)); (case hB => rw [← hw1]; exact Below.refl _ _); (case hb2 => rw [← hw1]; exact Nat.le_refl _); intro v5 w5 ho5 hb5 hg_ hnew_; clear hg_ hnew_; have HO5 := Aside0.mk ho5; have HB5 := Aside0.mk hb5; clear ho5 hb5))
  go_loopg [3, 4] 7 (fun kq v3 v4 wr => ∃ (i : Nat), v4 = .int .i64 (i : Int) ∧ Aside0 (i + kq = 7) ∧ Aside0 (∀ j, j < i → p j ≠ 0) ∧ Aside0 (Kd.R (Kd.int .i64) 3 wr w1.heap.size (fun _ => True) v3 ((m7 p).take i)) ∧ Aside0 (Below w1.heap.size w1 wr))
  case atStart => exact ⟨0, rfl, ⟨rfl⟩, ⟨fun j h => by omega⟩, HO5, HB5⟩
  case round =>
    clear HO5 HB5
    obtain ⟨i, rfl, HK, HN, HO, HB⟩ := hrel
    have HX := Aside0.mk ((HB.out.block _ HL1.out).trans Z1.out)
    by_cases hi : i < 7
    · have d1 : decide ((i : Int) < 7) = true := decide_eq_true (by omega)
      have hx := index7 i hi
      have hc := arr_cell HX.out i hi
      have HI := Aside0.mk hi
      have E1 := Aside0.mk (show wrap64 ((i : Int) + 1) = ((i + 1 : Nat) : Int) by unfold wrap64; omega)
      by_cases h : p i = 0
      · have hne : (p i != 0) = false := by rw [h]; rfl
        have HT := Aside0.mk (tw_at p i (by omega) HN.out (.inr h)).1
        clear h
        go_wp2
        repeat (go_quiet (fail); try go_wp2)
        go_ret
        exact ⟨_, rfl, by rw [show tw p = (m7 p).take i from HT.out]; exact Kd.R_lower HO.out HB0.out.size, below_step HB0.out HB.out⟩
      · obtain ⟨k1, hk1⟩ : ∃ k1, gk = k1 + 1 := ⟨gk - 1, by have := HK.out; omega⟩
        subst hk1
        have hne : (p i != 0) = true := bne_iff_ne.2 h
        have HQ := Aside0.mk h
        have HLEN := Aside0.mk (show ((m7 p).take i).length < 17592186044416 by rw [List.length_take]; omega)
        clear h
        go_wp2_with (first
          | ((with_reducible refine gate_builtin (b := .append) (xs := #[.tmp 16, .tmp 20]) rfl ?_); at_builtin; refine Kd.R_append (Kd.int .i64) (w0 := w1) w1.heap.size rfl (.tmp 16) (.tmp 20) 42 3 (.int .i64 0) 8 rfl Tryd.underlying42 info3 rfl (by decide) (by omega) u3 ((m7 p).take i) (p i) [.int .i64 (p i)] (fun _ => True) (fun _ => False) rfl rfl ?aP (fun _ hk => hk.elim) ?aF ?aO ?aB ?aS ?aL ?_; (case aP => exact rfl); (case aB => exact (by repeat (with_reducible first | exact HB.out | apply below_alloc | apply pw_below_drewN | apply below_drew1))); (case aF => exact (fun _ _ => trivial)); (case aO => exact (by (with_reducible repeat (first | apply Kd.R_alloc | apply Kd.R_drewN | apply Kd.R_drew)); exact HO.out)); (case aS => exact (below_size (by repeat (with_reducible first | exact HB.out | apply below_alloc | apply pw_below_drewN | apply below_drew1)))); (case aL => have := HLEN.out; omega); intro v21 w6 ho hb hg hat; rw [← m7_take p i HI.out] at ho; have HO6 := Aside0.mk ho; have HB6 := Aside0.mk hb; clear ho hb hg hat))
        go_roundg k1
        case measure => omega
        case rel => exact ⟨i + 1, by first | rw [E1.out] | simp, ⟨by have := HK.out; omega⟩, ⟨fun j hj => by
          by_cases hji : j = i
          · subst hji; exact HQ.out
          · exact HN.out j (by omega)⟩, HO6, HB6⟩
    · obtain rfl : i = 7 := by have := HK.out; omega
      have HT := Aside0.mk (tw_at p 7 (by omega) HN.out (.inl rfl)).1
      go_wp2
      go_ret
      exact ⟨_, rfl, by rw [show tw p = (m7 p).take 7 from HT.out]; exact Kd.R_lower HO.out HB0.out.size, below_step HB0.out HB.out⟩
set_option maxHeartbeats 4000000 in
set_option maxRecDepth 100000 in
theorem part_tells : TellsP Tryd.prog 38 #[] (· != 0) (fun _ => True) := by
  intro W x _
  show Calls Tryd.prog 38 #[.int .i64 x] W _
  go_enter Tryd.func38, Tryd.ntmps38
  go_wp2
  go_ret
  exact ⟨rfl, Below.refl _ _⟩
set_option maxHeartbeats 8000000 in
set_option maxRecDepth 100000 in
theorem partOf_walk (p : Nat → Int) (w : World) :
    Calls Tryd.prog 28 #[.agg (arr (m7 p))] w fun e w' => ∃ v0_ : Value, e = .returned (.tuple #[v0_, .bool (zr p)]) ∧ Kd.R (Kd.int .i64) 3 w' w.heap.size (fun _ => True) v0_ (tw p) ∧ Below w.heap.size w w' := by
  have eg : ∀ args w, (callFunc 38 args).run Tryd.prog w = .ok (.enter 38 args) w := enters_of Tryd.func38 (by kernel_rfl) rfl
  have Z0 := Aside0.mk (blk_new w (.cells (arr (m7 p)) 22))
  have HB0 := Aside0.mk (below_alloc (Below.refl w.heap.size w) (.cells (arr (m7 p)) 22))
  go_enter Tryd.func28, Tryd.ntmps28
  go_wp2
  go_loopg [4] 7 (fun kq v4 wr => ∃ (i : Nat), v4 = .int .i64 (i : Int) ∧ Aside0 (i + kq = 7) ∧ Aside0 (∀ j, j < i → p j ≠ 0) ∧ Aside0 (wr.heap[w.heap.size]? = some (.cells (arr (m7 p)) 22 (0, 0))) ∧ Aside0 (Below w.heap.size w wr))
  case atStart => exact ⟨0, rfl, ⟨rfl⟩, ⟨fun j h => by omega⟩, Z0, HB0⟩
  case round =>
    clear Z0 HB0
    obtain ⟨i, rfl, HK, HN, HX, HB⟩ := hrel
    by_cases hgo : i < 7 ∧ p i ≠ 0
    · obtain ⟨hi, h⟩ := hgo
      obtain ⟨k1, hk1⟩ : ∃ k1, gk = k1 + 1 := ⟨gk - 1, by have := HK.out; omega⟩
      subst hk1
      have d1 : decide ((i : Int) < 7) = true := decide_eq_true (by omega)
      have hx := index7 i hi
      have hc := arr_cell HX.out i hi
      have hne : (p i != 0) = true := bne_iff_ne.2 h
      have HQ := Aside0.mk h
      have E1 := Aside0.mk (show wrap64 ((i : Int) + 1) = ((i + 1 : Nat) : Int) by unfold wrap64; omega)
      clear h
      go_wp2
      repeat (go_quiet (fail); try go_wp2)
      go_roundg k1
      case measure => omega
      case rel => exact ⟨i + 1, by first | rw [E1.out] | simp, ⟨by have := HK.out; omega⟩, ⟨fun j hj => by
        by_cases hji : j = i
        · subst hji; exact HQ.out
        · exact HN.out j (by omega)⟩, HX, HB⟩
    · have hi7 : i ≤ 7 := by have := HK.out; omega
      have hend : i = 7 ∨ p i = 0 := by
        by_cases h7 : i = 7
        · exact .inl h7
        · exact .inr (by by_cases h0 : p i = 0; exact h0; exact absurd ⟨by omega, h0⟩ hgo)
      obtain ⟨ht, hdr⟩ := tw_at p i hi7 HN.out hend
      have hcond : (i < 7 ∧ p i = 0) ∨ i = 7 := by
        rcases hend with h | h
        · exact .inr h
        · by_cases h7 : i = 7
          · exact .inr h7
          · exact .inl ⟨by omega, h⟩
      clear hgo hend
      rcases hcond with ⟨h7, h0⟩ | h7
      · have d1 : decide ((i : Int) < 7) = true := decide_eq_true (by omega)
        have hx := index7 i h7
        have hc := arr_cell HX.out i h7
        have hne : (p i != 0) = false := by rw [h0]; rfl
        clear h0
        have hct := cut7_to p i hi7
        have hcf : ∀ (W : World) (b : Nat), (Instr.sliceAt 22 (.pointer (some ⟨b, 0, none⟩)) (some (.int .i64 (i : Int))) none none).run Tryd.prog W = .ok (.slice (some ⟨b, i, none⟩) ((m7 p).drop i).length (7 - i)) W := by
          intro W b
          have h_ := cut7_from p i hi7 W b
          rwa [if_neg (by omega)] at h_
        have HC1 := Aside0.mk (arr_pre HX.out i hi7)
        have hc2 := arr_suf HX.out i hi7
        rw [if_neg (by omega)] at hc2
        have HC2 := Aside0.mk hc2
        have HL1 := Aside0.mk (show ((m7 p).take i).length ≤ 7 by rw [List.length_take]; show min _ 7 ≤ 7; omega)
        have HL2 := Aside0.mk (show ((m7 p).drop i).length ≤ 7 - i by rw [List.length_drop]; exact Nat.le_refl _)
        have HT := Aside0.mk (show tw p = (m7 p).take i from ht)
        have HZ := Aside0.mk (show zr p = !((m7 p).drop i).any (· != 0) by unfold zr; rw [hdr])
        clear ht hdr hc2
        generalize (m7 p).take i = l1 at hct HC1 HL1 HT
        generalize (m7 p).drop i = l2 at hcf HC2 HL2 HZ
        have HCL := Aside0.mk (show slices_Clone_int_int.f l1 = some l1 by unfold slices_Clone_int_int.f; rw [if_pos (by have := HL1.out; omega)])
        go_upto_region 4 with fail
        go_region_held3 (fun W => Below wr.heap.size wr W) (first | exact below_drew (Below.refl _ _) | exact below_step (by assumption) hb)
          (first
          | (go_at_call 36; (refine (slices_Clone_int_int.calls (some ⟨w.heap.size, 0, none⟩) 7 l1 l1 _ (Kd.C_below HC1.out (by assumption)) HL1.out HCL.out).mono ?_); rintro e w6 ⟨v6, rfl, ho, hb⟩; have HO6 := Aside0.mk (Kd.R_lower ho (below_step HB.out (by assumption)).size))
          | (go_at_call 37; (refine (ContainsFunc_int 38 #[] eg (· != 0) (fun _ => True) (fun _ _ _ _ => trivial) part_tells (some ⟨w.heap.size, i, none⟩) (7 - i) l2 _ (Kd.C_below HC2.out (by assumption)) HL2.out trivial).mono ?_); rintro e w7 ⟨rfl, hb⟩; (try have HO7 := Aside0.mk (Kd.R_below HO6.out hb))))
        all_goals go_wp2
        all_goals go_ret2
        all_goals exact ⟨_, by rw [HZ.out]; rfl, by rw [HT.out]; first | exact HO7.out | exact HO6.out, below_step HB.out (by assumption)⟩
      · subst h7
        have hct : ∀ (W : World) (b : Nat), (Instr.sliceAt 22 (.pointer (some ⟨b, 0, none⟩)) none (some (.int .i64 7)) none).run Tryd.prog W = .ok (.slice (some ⟨b, 0, none⟩) ((m7 p).take 7).length 7) W := fun W b => cut7_to p 7 (by omega) W b
        have hcf : ∀ (W : World) (b : Nat), (Instr.sliceAt 22 (.pointer (some ⟨b, 0, none⟩)) (some (.int .i64 7)) none none).run Tryd.prog W = .ok (.slice (some ⟨b, 0, none⟩) ((m7 p).drop 7).length (0)) W := by
          intro W b
          have h_ := cut7_from p 7 (by omega) W b
          exact h_
        have HC1 := Aside0.mk (arr_pre HX.out 7 (by omega))
        have hc2 := arr_suf HX.out 7 (by omega)
        rw [if_pos rfl] at hc2
        have HC2 := Aside0.mk hc2
        have HL1 := Aside0.mk (show ((m7 p).take 7).length ≤ 7 by rw [List.length_take]; show min _ 7 ≤ 7; omega)
        have HL2 := Aside0.mk (show ((m7 p).drop 7).length ≤ 0 by rw [List.length_drop]; exact Nat.le_refl _)
        have HT := Aside0.mk (show tw p = (m7 p).take 7 from ht)
        have HZ := Aside0.mk (show zr p = !((m7 p).drop 7).any (· != 0) by unfold zr; rw [hdr])
        clear ht hdr hc2
        generalize (m7 p).take 7 = l1 at hct HC1 HL1 HT
        generalize (m7 p).drop 7 = l2 at hcf HC2 HL2 HZ
        have HCL := Aside0.mk (show slices_Clone_int_int.f l1 = some l1 by unfold slices_Clone_int_int.f; rw [if_pos (by have := HL1.out; omega)])
        go_upto_region 4 with fail
        go_region_held3 (fun W => Below wr.heap.size wr W) (first | exact below_drew (Below.refl _ _) | exact below_step (by assumption) hb)
          (first
          | (go_at_call 36; (refine (slices_Clone_int_int.calls (some ⟨w.heap.size, 0, none⟩) 7 l1 l1 _ (Kd.C_below HC1.out (by assumption)) HL1.out HCL.out).mono ?_); rintro e w6 ⟨v6, rfl, ho, hb⟩; have HO6 := Aside0.mk (Kd.R_lower ho (below_step HB.out (by assumption)).size))
          | (go_at_call 37; (refine (ContainsFunc_int 38 #[] eg (· != 0) (fun _ => True) (fun _ _ _ _ => trivial) part_tells (some ⟨w.heap.size, 0, none⟩) (0) l2 _ (Kd.C_below HC2.out (by assumption)) HL2.out trivial).mono ?_); rintro e w7 ⟨rfl, hb⟩; (try have HO7 := Aside0.mk (Kd.R_below HO6.out hb))))
        all_goals go_wp2
        all_goals go_ret2
        all_goals exact ⟨_, by rw [HZ.out]; rfl, by rw [HT.out]; first | exact HO7.out | exact HO6.out, below_step HB.out (by assumption)⟩

end Go.Proofs.YtdeklpmmdakbeaaDoor.Xv
