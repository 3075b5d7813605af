/- l1Num of a number that is not negative: its decimal numeral. -/
import Derived.Test.YtdeklpmmdakbeaaDoorZvXv0
import Derived.Lib.ItoaNum
import Derived.OneCell
import Derived.Deep.RegionHeld3
import Derived.BigQuiet
import Derived.Deep.QuietTactic
import Derived.RegionTactic
import Derived.BigRegion
namespace Go.Proofs.YtdeklpmmdakbeaaDoor.Xv
open Go.RowKit Go.Proofs.YtdeklpmmdakbeaaDoorW.PrintWords Go.Proofs.YtdeklpmmdakbeaaDoorW.PrintLast Go.Proofs.YtdeklpmmdakbeaaDoorW.PrintMore
attribute [local go_sem] max2_int min2_int max_two min_two max_three min_three max_four min_four
set_option linter.unusedVariables false
set_option linter.unusedSimpArgs false
theorem cat_len32 (n : Nat) : ((n : Int) + (((⟨#[32]⟩ : ByteArray).size : Nat) : Int)).toNat = n + 1 := by
  show ((n : Int) + 1).toNat = n + 1
  omega
theorem digit_slice : ∀ d : Nat, d < 10 → ∀ W : World, (Instr.slice 9 (.string (⟨#[48, 49, 50, 51, 52, 53, 54, 55, 56, 57]⟩ : ByteArray)) (some (.int .i64 (d : Int))) (some (.int .i64 ((d + 1 : Nat) : Int))) none).run Tryd.prog W = .ok (.string ⟨#[UInt8.ofNat (48 + d)]⟩) W := by
  intro d hd
  have : d = 0 ∨ d = 1 ∨ d = 2 ∨ d = 3 ∨ d = 4 ∨ d = 5 ∨ d = 6 ∨ d = 7 ∨ d = 8 ∨ d = 9 := by omega
  rcases this with rfl | rfl | rfl | rfl | rfl | rfl | rfl | rfl | rfl | rfl <;> (intro W; kernel_rfl)
def numT (n : Nat) : ByteArray := ⟨(Lib.decDigits n).toArray⟩
theorem numT_small (n : Nat) (h : n < 10) : numT n = ⟨#[UInt8.ofNat (48 + n)]⟩ := by
  unfold numT
  rw [Lib.decDigits, dif_pos h]
theorem numT_step (n : Nat) (h : ¬ n < 10) : numT n = numT (n / 10) ++ ⟨#[UInt8.ofNat (48 + n % 10)]⟩ := by
  unfold numT
  rw [Lib.decDigits, dif_neg h]
  apply ByteArray.ext
  simp
theorem numT_size : ∀ n : Nat, (numT n).size ≤ n + 1 := by
  intro n
  induction n using Nat.strongRecOn with
  | _ n ih =>
    by_cases h : n < 10
    · rw [numT_small n h]; show 1 ≤ n + 1; omega
    · rw [numT_step n h, ByteArray.size_append]
      have := ih (n / 10) (by omega)
      show (numT (n / 10)).size + 1 ≤ n + 1
      omega
set_option maxHeartbeats 8000000 in
set_option maxRecDepth 100000 in
theorem l1Num_walk (n : Nat) : n ≤ 9223372036854775807 → ∀ w : World, Calls Tryd.prog 33 #[.int .i64 (n : Int)] w fun e w' => e = .returned (.string (numT n)) ∧ Below w.heap.size w w' := by
  induction n using Nat.strongRecOn with
  | _ n ih =>
    intro hn w
    have n0 : ¬ (n : Int) < 0 := by omega
    have m0 : decide ((n : Int) < 0) = false := decide_eq_false n0
    by_cases h : n < 10
    · rw [numT_small n h]
      have : n = 0 ∨ n = 1 ∨ n = 2 ∨ n = 3 ∨ n = 4 ∨ n = 5 ∨ n = 6 ∨ n = 7 ∨ n = 8 ∨ n = 9 := by omega
      clear ih n0 m0
      rcases this with rfl | rfl | rfl | rfl | rfl | rfl | rfl | rfl | rfl | rfl <;>
        (go_enter Tryd.func33, Tryd.ntmps33
         go_wp2
         go_ret
         exact ⟨by first | rfl | kernel_rfl, Below.refl _ _⟩)
    · have m1 : decide ((n : Int) < 10) = false := decide_eq_false (by omega)
      have m2 : ¬ (n : Int) < 10 := by omega
      have HH := Aside0.mk (ih (n / 10) (by omega) (by omega))
      have hsz := numT_size (n / 10)
      rw [numT_step n h]
      have hs := digit_slice (n % 10) (by omega)
      obtain ⟨dg, hdg⟩ : ∃ dg : ByteArray, dg = ⟨#[UInt8.ofNat (48 + n % 10)]⟩ := ⟨_, rfl⟩
      have hd1 : dg.size = 1 := by rw [hdg]; rfl
      rw [← hdg] at hs ⊢
      obtain ⟨hi, hhi⟩ : ∃ hi : ByteArray, hi = numT (n / 10) := ⟨_, rfl⟩
      rw [← hhi] at HH hsz ⊢
      have hcat : ¬ 9223372036854775807 < hi.size + dg.size := by omega
      have hcat2 : hi.size + dg.size ≤ 9223372036854775807 := by omega
      have e1 : wrap64 (Int.tdiv (n : Int) 10) = ((n / 10 : Nat) : Int) := by
        rw [show Int.tdiv (n : Int) 10 = ((n / 10 : Nat) : Int) from (Int.ofNat_tdiv n 10).symm]
        unfold wrap64
        omega
      have e2 : Int.tmod (n : Int) 10 = ((n % 10 : Nat) : Int) := (Int.ofNat_tmod n 10).symm
      obtain ⟨q, hq⟩ : ∃ q : Int, ((n / 10 : Nat) : Int) = q := ⟨_, rfl⟩
      obtain ⟨d, hd⟩ : ∃ d : Int, ((n % 10 : Nat) : Int) = d := ⟨_, rfl⟩
      obtain ⟨d1, hdd⟩ : ∃ d1 : Int, ((n % 10 + 1 : Nat) : Int) = d1 := ⟨_, rfl⟩
      have e3 : wrap64 (d + 1) = d1 := by rw [← hd, ← hdd]; unfold wrap64; omega
      rw [hq] at e1 HH
      rw [hd] at e2 hs
      rw [hdd] at hs
      have E1 := Aside0.mk hq
      have E2 := Aside0.mk hd
      have E3 := Aside0.mk hdd
      have E4 := Aside0.mk e2
      have HS := Aside0.mk hs
      clear hdg hhi hq hd hdd ih hs e1 e2 e3 hd1 hsz
      go_enter Tryd.func33, Tryd.ntmps33
      go_upto_region 7 with fail
      refine wp_region_held_drew (S := (fun W => Below w.heap.size w W)) (by kernel_rfl) (below_drew (Below.refl _ _)) (fun hHeld => ?_)
      refine wpAnyH_take (i := 0) (oi := ?oin0) (v := (.int .i64 (n : Int))) ?hin0 (by kernel_rfl) (by kernel_rfl) (by kernel_rfl) ?hQn0 ?hyn0 hHeld ?hn0
      case hin0 => (simp only [List.getElem?_toArray, List.getElem?_cons_succ, List.getElem?_cons_zero]; rfl)
      case hQn0 => exact fun _ _ _ h => h
      case hyn0 => exact Or.inl ⟨by rfl, by intro w_ hSw; have hs := HS.out; have e1 := E1.out; have e2 := E2.out; have e3 := E3.out; have e4 := E4.out; first | (go_simp; done) | (go_simp; with_reducible rfl) | (go_simp; simp only [i64_w]; unfold wrap64; omega) | (go_simp; omega)⟩
      try simp only [Act.put, List.setIfInBounds_toArray, List.set_cons_zero, List.set_cons_succ]
      refine wpAnyH_take (i := 1) (oi := ?oin1) (v := (.int .i64 q)) ?hin1 (by kernel_rfl) (by kernel_rfl) (by kernel_rfl) ?hQn1 ?hyn1 hHeld ?hn1
      case hin1 => (simp only [List.getElem?_toArray, List.getElem?_cons_succ, List.getElem?_cons_zero]; rfl)
      case hQn1 => exact fun _ _ _ h => h
      case hyn1 => exact Or.inl ⟨by rfl, by intro w_ hSw; have hs := HS.out; have e1 := E1.out; have e2 := E2.out; have e3 := E3.out; have e4 := E4.out; first | (go_simp; done) | (go_simp; with_reducible rfl) | (go_simp; simp only [i64_w]; unfold wrap64; omega) | (go_simp; omega)⟩
      try simp only [Act.put, List.setIfInBounds_toArray, List.set_cons_zero, List.set_cons_succ]
      refine wpAnyH_take (i := 3) (oi := ?oin3) (v := (.int .i64 (n : Int))) ?hin3 (by kernel_rfl) (by kernel_rfl) (by kernel_rfl) ?hQn3 ?hyn3 hHeld ?hn3
      case hin3 => (simp only [List.getElem?_toArray, List.getElem?_cons_succ, List.getElem?_cons_zero]; rfl)
      case hQn3 => exact fun _ _ _ h => h
      case hyn3 => exact Or.inl ⟨by rfl, by intro w_ hSw; have hs := HS.out; have e1 := E1.out; have e2 := E2.out; have e3 := E3.out; have e4 := E4.out; first | (go_simp; done) | (go_simp; with_reducible rfl) | (go_simp; simp only [i64_w]; unfold wrap64; omega) | (go_simp; omega)⟩
      try simp only [Act.put, List.setIfInBounds_toArray, List.set_cons_zero, List.set_cons_succ]
      refine wpAnyH_take (i := 4) (oi := ?oin4) (v := (.int .i64 d)) ?hin4 (by kernel_rfl) (by kernel_rfl) (by kernel_rfl) ?hQn4 ?hyn4 hHeld ?hn4
      case hin4 => (simp only [List.getElem?_toArray, List.getElem?_cons_succ, List.getElem?_cons_zero]; rfl)
      case hQn4 => exact fun _ _ _ h => h
      case hyn4 => exact Or.inl ⟨by rfl, by intro w_ hSw; have hs := HS.out; have e1 := E1.out; have e2 := E2.out; have e3 := E3.out; have e4 := E4.out; first | (go_simp; done) | (go_simp; with_reducible rfl) | (go_simp; simp only [i64_w]; unfold wrap64; omega) | (go_simp; omega)⟩
      try simp only [Act.put, List.setIfInBounds_toArray, List.set_cons_zero, List.set_cons_succ]
      refine wpAnyH_take (i := 5) (oi := ?oin5) (v := (.int .i64 (n : Int))) ?hin5 (by kernel_rfl) (by kernel_rfl) (by kernel_rfl) ?hQn5 ?hyn5 hHeld ?hn5
      case hin5 => (simp only [List.getElem?_toArray, List.getElem?_cons_succ, List.getElem?_cons_zero]; rfl)
      case hQn5 => exact fun _ _ _ h => h
      case hyn5 => exact Or.inl ⟨by rfl, by intro w_ hSw; have hs := HS.out; have e1 := E1.out; have e2 := E2.out; have e3 := E3.out; have e4 := E4.out; first | (go_simp; done) | (go_simp; with_reducible rfl) | (go_simp; simp only [i64_w]; unfold wrap64; omega) | (go_simp; omega)⟩
      try simp only [Act.put, List.setIfInBounds_toArray, List.set_cons_zero, List.set_cons_succ]
      refine wpAnyH_take (i := 6) (oi := ?oin6) (v := (.int .i64 d)) ?hin6 (by kernel_rfl) (by kernel_rfl) (by kernel_rfl) ?hQn6 ?hyn6 hHeld ?hn6
      case hin6 => (simp only [List.getElem?_toArray, List.getElem?_cons_succ, List.getElem?_cons_zero]; rfl)
      case hQn6 => exact fun _ _ _ h => h
      case hyn6 => exact Or.inl ⟨by rfl, by intro w_ hSw; have hs := HS.out; have e1 := E1.out; have e2 := E2.out; have e3 := E3.out; have e4 := E4.out; first | (go_simp; done) | (go_simp; with_reducible rfl) | (go_simp; simp only [i64_w]; unfold wrap64; omega) | (go_simp; omega)⟩
      try simp only [Act.put, List.setIfInBounds_toArray, List.set_cons_zero, List.set_cons_succ]
      refine wpAnyH_take (i := 7) (oi := ?oin7) (v := (.int .i64 d1)) ?hin7 (by kernel_rfl) (by kernel_rfl) (by kernel_rfl) ?hQn7 ?hyn7 hHeld ?hn7
      case hin7 => (simp only [List.getElem?_toArray, List.getElem?_cons_succ, List.getElem?_cons_zero]; rfl)
      case hQn7 => exact fun _ _ _ h => h
      case hyn7 => exact Or.inl ⟨by rfl, by intro w_ hSw; have hs := HS.out; have e1 := E1.out; have e2 := E2.out; have e3 := E3.out; have e4 := E4.out; first | (go_simp; done) | (go_simp; with_reducible rfl) | (go_simp; simp only [i64_w]; unfold wrap64; omega) | (go_simp; omega)⟩
      try simp only [Act.put, List.setIfInBounds_toArray, List.set_cons_zero, List.set_cons_succ]
      refine wpAnyH_take (i := 8) (oi := ?oin8) (v := (.string dg)) ?hin8 (by kernel_rfl) (by kernel_rfl) (by kernel_rfl) ?hQn8 ?hyn8 hHeld ?hn8
      case hin8 => (simp only [List.getElem?_toArray, List.getElem?_cons_succ, List.getElem?_cons_zero]; rfl)
      case hQn8 => exact fun _ _ _ h => h
      case hyn8 => exact Or.inl ⟨by rfl, by intro w_ hSw; have hs := HS.out; have e1 := E1.out; have e2 := E2.out; have e3 := E3.out; have e4 := E4.out; first | (go_simp; done) | (go_simp; with_reducible rfl) | (go_simp; simp only [i64_w]; unfold wrap64; omega) | (go_simp; omega)⟩
      try simp only [Act.put, List.setIfInBounds_toArray, List.set_cons_zero, List.set_cons_succ]
      refine wpAnyH_ready (rs := [2]) (by kernel_rfl) (by simp) ?_
      refine AllReadyH.cons (o := ?ocb2) ?hcb2 (fun K hK => ?hkb2) AllReadyH.nil
      case hcb2 => (simp only [List.getElem?_toArray, List.getElem?_cons_succ, List.getElem?_cons_zero]; rfl)
      go_simp
      go_at_call 33
      refine (HH.out _).mono ?_
      rintro e w2 ⟨rfl, hb⟩
      try dsimp only
      refine hK.out _ _ (below_step hHeld hb) (fun hHeld => ?_)
      clear hK K
      try simp only [Act.put, List.setIfInBounds_toArray, List.set_cons_zero, List.set_cons_succ]
      refine wpAnyH_take (i := 9) (oi := ?oin9) (v := (.string (hi ++ dg))) ?hin9 (by kernel_rfl) (by kernel_rfl) (by kernel_rfl) ?hQn9 ?hyn9 hHeld ?hn9
      case hin9 => (simp only [List.getElem?_toArray, List.getElem?_cons_succ, List.getElem?_cons_zero]; rfl)
      case hQn9 => exact fun _ _ _ h => h
      case hyn9 => exact Or.inl ⟨by rfl, by intro w_ hSw; have hs := HS.out; have e1 := E1.out; have e2 := E2.out; have e3 := E3.out; have e4 := E4.out; first | (go_simp; done) | (go_simp; with_reducible rfl) | (go_simp; simp only [i64_w]; unfold wrap64; omega) | (go_simp; omega)⟩
      try simp only [Act.put, List.setIfInBounds_toArray, List.set_cons_zero, List.set_cons_succ]
      refine wpAnyH_take (i := 10) (oi := ?oin10) (v := (.string (hi ++ dg))) ?hin10 (by kernel_rfl) (by kernel_rfl) (by kernel_rfl) ?hQn10 ?hyn10 hHeld ?hn10
      case hin10 => (simp only [List.getElem?_toArray, List.getElem?_cons_succ, List.getElem?_cons_zero]; rfl)
      case hQn10 => exact fun _ _ _ h => h
      case hyn10 => exact Or.inl ⟨by rfl, by intro w_ hSw; have hs := HS.out; have e1 := E1.out; have e2 := E2.out; have e3 := E3.out; have e4 := E4.out; first | (go_simp; done) | (go_simp; with_reducible rfl) | (go_simp; simp only [i64_w]; unfold wrap64; omega) | (go_simp; omega)⟩
      try simp only [Act.put, List.setIfInBounds_toArray, List.set_cons_zero, List.set_cons_succ]
      refine wpAnyH_done (by kernel_rfl) ?_ _
      go_wp2
      go_ret
      exact ⟨rfl, hHeld⟩
def spec_l1Num.f (a0 : Int) : Option ByteArray := if 0 ≤ a0 ∧ a0 ≤ 9223372036854775807 then some (numT a0.toNat) else none
theorem spec_l1Num.calls (a0 : Int) (r : ByteArray) (w : World) (h : spec_l1Num.f a0 = some r) : Calls Tryd.prog 33 #[.int .i64 a0] w fun e w' => e = .returned (.string r) ∧ Below w.heap.size w w' := by
  unfold spec_l1Num.f at h
  split at h
  · rename_i hc
    obtain rfl := Option.some.inj h
    obtain ⟨n, rfl⟩ := Int.eq_ofNat_of_zero_le hc.1
    rw [Int.toNat_natCast]
    exact l1Num_walk n (by omega) w
  · cases h

end Go.Proofs.YtdeklpmmdakbeaaDoor.Xv
