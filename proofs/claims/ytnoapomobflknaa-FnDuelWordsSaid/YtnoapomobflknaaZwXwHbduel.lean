/- The best value of the empty beginning, and the first order with it: the program, at any function value that compares. -/
import Derived.Test.YtnoapomobflknaaZwXw0
import Derived.Test.YtnoapomobflknaaZwXw13
import Derived.Test.YtnoapomobflknaaZwXwHduel
import Derived.Test.YtnoapomobflknaaZwXwHfar
import Derived.OneCell
import Derived.Lib.SliceRun
import Derived.Shelf.Abstract
import Derived.Outline
import Derived.Lib.Walk
namespace Go.Proofs.Ytnoapomobflknaa.Xw
open Go.RowKit Go.Proofs.YtnoapomobflknaaW.PrintWords Go.Proofs.YtnoapomobflknaaW.PrintLast Go.Proofs.YtnoapomobflknaaW.PrintMore
attribute [local go_sem] max2_int min2_int max_two min_two max_three min_three max_four min_four
set_option linter.unusedVariables false
set_option linter.unusedSimpArgs false
def TellsLt (P : Program) (g : Nat) (lb : Array Value) (lt : Int → Int → Bool) : Prop :=
  ∀ (W : World) (a b : Int), Calls P g (#[.int .i64 a, .int .i64 b] ++ lb) W fun e w' => e = .returned (.bool (lt a b)) ∧ Below W.heap.size W w'
theorem TellsLt.at_ {P : Program} {g : Nat} {lb : Array Value} {lt : Int → Int → Bool} (h : TellsLt P g lb lt) (W : World) (a b : Int) : Calls P g (#[.int .i64 a, .int .i64 b] ++ lb) W fun e w' => e = .returned (.bool (lt a b)) ∧ Below W.heap.size W w' := h W a b
def bdL (lt : Int → Int → Bool) (F : List Int → Option (Int × Bool)) : List (List Int) → Bool → Int → List Int → Option (Int × List Int)
  | [], _, best, out => some (best, out)
  | o :: t, first, best, out => if 0 < o.length then (F o).bind fun r => if first = true ∨ lt r.1 best = true then bdL lt F t false r.1 o else bdL lt F t false best out else none
def bduelF (k : Nat) (lt : Int → Int → Bool) (n : Int) : Option (Int × List Int × Bool) := if n < 1 ∨ 5 < n then some (0, ([] : List Int), false) else (impl_allOrders.f k n).bind fun all => if 0 < all.length ∧ all.length < 1000000 then (bdL lt (fun o => impl_DuelValue.f k o (⟨#[]⟩ : ByteArray)) all true 0 []).bind fun r => some (r.1, r.2, true) else none
theorem bdL_le {F G : List Int → Option (Int × Bool)} (h : ∀ l, LeO (F l) (G l)) (lt : Int → Int → Bool) : ∀ l f b m, LeO (bdL lt F l f b m) (bdL lt G l f b m)
  | [], _, _, _ => LeO.refl _
  | o :: t, _, _, _ => LeO.ite (LeO.bind (h o) fun _ => LeO.ite (bdL_le h lt t _ _ _) (bdL_le h lt t _ _ _)) (LeO.none _)
theorem bduelF_le (k : Nat) (lt : Int → Int → Bool) (n : Int) : LeO (bduelF k lt n) (bduelF (k + 1) lt n) :=
  LeO.ite (LeO.refl _) (LeO.bind (impl_allOrders.mono _ _) fun _ => LeO.ite (LeO.bind (bdL_le (fun l => impl_DuelValue.mono l _ k) lt _ _ _ _) fun _ => LeO.refl _) (LeO.none _))
theorem row_some {w : World} {base : Nat} {ok : Nat → Prop} {A : Option Addr} {c : Nat} {l : List Int} (h : Kd.R (Kd.int .i64) 3 w base ok (.slice A l.length c) l) (h0 : 0 < l.length) : ∃ ad, A = some ad := by
  obtain ⟨g, cap, e, _⟩ := Kd.R_form h h0
  injection e with e1
  exact ⟨_, e1⟩
set_option maxHeartbeats 8000000 in
set_option maxRecDepth 100000 in
theorem bestDuel_calls (k : Nat) (g : Nat) (lb : Array Value) (eg : ∀ args w, (callFunc g args).run Try.prog w = .ok (.enter g args) w) (lt : Int → Int → Bool) (ht : TellsLt Try.prog g lb lt) (a0 : Int) (r1 : Int) (r2 : List Int) (r3 : Bool) (w : World) (h : bduelF k lt a0 = some (r1, r2, r3)) :
    Calls Try.prog 119 #[.int .i64 a0, .func (.func g) #[] lb] w fun e w' => ∃ v0_ : Value, e = .returned (.tuple #[.int .i64 r1, v0_, .bool r3]) ∧ Kd.R (Kd.int .i64) 3 w' w.heap.size (fun _ => True) v0_ r2 ∧ Below w.heap.size w w' := by
  unfold bduelF at h
  by_cases hn : a0 < 1 ∨ 5 < a0
  · rw [if_pos hn] at h
    have h' := Option.some.inj h
    simp only [Prod.mk.injEq] at h'
    obtain ⟨rfl, rfl, rfl⟩ := h'
    clear h
    by_cases h1 : a0 < 1
    · have d1 : decide (a0 < 1) = true := decide_eq_true h1
      clear hn h1
      go_enter Try.func119, Try.ntmps119
      go_wp2
      go_ret3
      exact ⟨_, rfl, Kd.R_nil _ _ _ _ _, Below.refl _ _⟩
    · have d1 : decide (a0 < 1) = false := decide_eq_false h1
      have d2 : decide (5 < a0) = true := decide_eq_true (by omega)
      clear hn h1
      go_enter Try.func119, Try.ntmps119
      go_wp2
      go_ret3
      exact ⟨_, rfl, Kd.R_nil _ _ _ _ _, Below.refl _ _⟩
  · rw [if_neg hn] at h
    have d1 : decide (a0 < 1) = false := decide_eq_false (by omega)
    have d2 : decide (5 < a0) = false := decide_eq_false (by omega)
    obtain ⟨all, hall, h⟩ := Option.bind_eq_some_iff.1 h
    have hc : 0 < all.length ∧ all.length < 1000000 := by
      by_cases h0 : 0 < all.length ∧ all.length < 1000000
      · exact h0
      · rw [if_neg h0] at h
        cases h
    rw [if_pos hc] at h
    obtain ⟨⟨g1, g2⟩, hg, h⟩ := Option.bind_eq_some_iff.1 h
    have h' := Option.some.inj h
    simp only [Prod.mk.injEq] at h'
    obtain ⟨rfl, rfl, rfl⟩ := h'
    have HALL := Aside0.mk hall
    have HL := Aside0.mk hg
    have HC := Aside0.mk hc
    have HT := Aside0.mk ht
    clear h hall hg hc ht hn
    have q22 : ∀ (w : World) (a : Option Addr) (n c n' c' : Nat), (binOp .eql 24 (.slice a n c) (.slice none n' c')).run Try.prog w = .ok (.bool a.isNone) w := fun w a n c n' c' => Lib.run_eql_slice_nil w _ _ a n c n' c' Try.underlying24
    go_enter Try.func119, Try.ntmps119
    go_wp2_with (go_at_call 139; (refine (impl_allOrders.calls k a0 all _ HALL.out).mono ?_); rintro e w7 ⟨v7, rfl, ho, hb⟩; obtain ⟨gb, cap, e7, _, _⟩ := Kd.S_form ho HC.out.1; subst e7; have HO7 := Aside0.mk ho; have HB7 := Aside0.mk hb; clear ho hb)
    go_loopg [7, 8, 22] all.length (fun kq v7 v8 v22 wr => ∃ (i : Nat) (best : Int) (out : List Int) (Ab : Option Addr) (cb : Nat), v7 = .int .i64 best ∧ v8 = .slice Ab out.length cb ∧ v22 = .int .i64 (i : Int) ∧ Aside0 (i + kq = all.length) ∧ Aside0 (bdL lt (fun o => impl_DuelValue.f k o (⟨#[]⟩ : ByteArray)) (all.drop i) (decide (i = 0)) best out = some (g1, g2)) ∧ Aside0 ((i = 0 ∧ Ab = none ∧ out = [] ∧ cb = 0) ∨ (0 < i ∧ ∃ ad, Ab = some ad)) ∧ Aside0 (Kd.R (Kd.int .i64) 3 wr w.heap.size (fun _ => True) (.slice Ab out.length cb) out) ∧ Aside0 (Kd.S (Kd.slice 3 (Kd.int .i64)) 24 wr w.heap.size (fun _ => True) (.slice (some ⟨gb, 0, none⟩) all.length cap) all) ∧ Aside0 (Below w.heap.size w wr))
    case atStart => exact ⟨0, 0, [], none, 0, rfl, rfl, rfl, ⟨by omega⟩, HL, ⟨.inl ⟨rfl, rfl, rfl, rfl⟩⟩, ⟨Kd.R_nil _ _ _ _ _⟩, HO7, HB7⟩
    case round =>
      clear HL HO7 HB7
      obtain ⟨i, best, out, Ab, cb, rfl, rfl, rfl, HK, HL, HF, HR, HO, HB⟩ := hrel
      by_cases hi : i < all.length
      · obtain ⟨k1, hk1⟩ : ∃ k1, gk = k1 + 1 := ⟨gk - 1, by have := HK.out; omega⟩
        subst hk1
        have hd0 : decide (0 ≤ (i : Int)) = true := decide_eq_true (by omega)
        have hd1 : decide (i < all.length) = true := decide_eq_true hi
        have hl := HL.out
        rw [rdL_drop all i hi] at hl
        simp only [bdL] at hl
        obtain ⟨A1, c1, hcell, hR1⟩ := at_own HO.out i hi
        obtain ⟨_, hl1, hC1⟩ := Kd.R_reads' hR1
        by_cases hpos : 0 < (rdL all i).length
        · rw [if_pos hpos] at hl
          obtain ⟨⟨x, xb⟩, hx, hl⟩ := Option.bind_eq_some_iff.1 hl
          obtain ⟨ad1, rfl⟩ := row_some hR1 hpos
          have HFX := Aside0.mk hx
          have HL2 := Aside0.mk hl
          have HR1 := Aside0.mk hR1
          have HLC := Aside0.mk hl1
          have HC1 := Aside0.mk hC1
          have E1 := Aside0.mk (show wrap64 ((i : Int) + 1) = ((i + 1 : Nat) : Int) by have := HC.out; unfold wrap64; omega)
          clear hx hl hR1 hl1 hC1 HL hpos
          generalize rdL all i = o1 at hcell HFX HLC HC1 HR1 HL2
          have HDC : Aside0 (decide (i + 1 = 0) = false) := ⟨decide_eq_false (by omega)⟩
          by_cases h0 : i = 0
          · have hab : Ab = none ∧ out = [] ∧ cb = 0 := by
              rcases HF.out with ⟨_, h_⟩ | ⟨h_, _⟩
              · exact h_
              · omega
            obtain ⟨rfl, rfl, rfl⟩ := hab
            have HL3 : Aside0 (bdL lt (fun o => impl_DuelValue.f k o (⟨#[]⟩ : ByteArray)) (all.drop (i + 1)) (decide (i + 1 = 0)) x o1 = some (g1, g2)) := ⟨by have h_ := HL2.out; rw [if_pos (.inl (decide_eq_true h0))] at h_; rw [HDC.out]; exact h_⟩
            clear HL2 h0
            go_wp2_with (go_at_call 9; (refine (impl_DuelValue.calls k (some ad1) c1 o1 (⟨#[]⟩ : ByteArray) x xb _ HC1.out HLC.out HFX.out).mono ?_); rintro e w9 ⟨rfl, hb9⟩; have HB9 := Aside0.mk (below_step HB.out hb9); have HO9 := Aside0.mk (Kd.S_below HO.out hb9); have HRB := Aside0.mk (Kd.R_below HR.out hb9); have HRO := Aside0.mk (Kd.R_below HR1.out hb9); clear hb9)
            go_roundg k1
            case measure => omega
            case rel => exact ⟨i + 1, x, o1, some ad1, c1, rfl, rfl, by rw [E1.out], ⟨by have := HK.out; omega⟩, HL3, ⟨.inr ⟨by omega, _, rfl⟩⟩, HRO, HO9, HB9⟩
          · obtain ⟨ad0, rfl⟩ : ∃ ad, Ab = some ad := by
              rcases HF.out with ⟨h_, _⟩ | ⟨_, h_⟩
              · omega
              · exact h_
            obtain ⟨b, hb⟩ : ∃ b, lt x best = b := ⟨_, rfl⟩
            cases b with
            | true =>
              have HL3 : Aside0 (bdL lt (fun o => impl_DuelValue.f k o (⟨#[]⟩ : ByteArray)) (all.drop (i + 1)) (decide (i + 1 = 0)) x o1 = some (g1, g2)) := ⟨by have h_ := HL2.out; rw [if_pos (.inr hb)] at h_; rw [HDC.out]; exact h_⟩
              clear HL2 h0
              go_wp2_with (first | (go_at_call 9; (refine (impl_DuelValue.calls k (some ad1) c1 o1 (⟨#[]⟩ : ByteArray) x xb _ HC1.out HLC.out HFX.out).mono ?_); rintro e w9 ⟨rfl, hb9⟩; have HB9 := Aside0.mk (below_step HB.out hb9); have HO9 := Aside0.mk (Kd.S_below HO.out hb9); have HRB := Aside0.mk (Kd.R_below HR.out hb9); have HRO := Aside0.mk (Kd.R_below HR1.out hb9); clear hb9) | (go_at_fn g; (with_reducible refine (HT.out.at_ _ x best).mono ?_); rintro e w10 ⟨he, hbf⟩; rw [hb] at he; subst he; have HBF := Aside0.mk hbf; clear hbf))
              go_roundg k1
              case measure => omega
              case rel => exact ⟨i + 1, x, o1, some ad1, c1, rfl, rfl, by rw [E1.out], ⟨by have := HK.out; omega⟩, HL3, ⟨.inr ⟨by omega, _, rfl⟩⟩, ⟨Kd.R_below HRO.out HBF.out⟩, ⟨Kd.S_below HO9.out HBF.out⟩, ⟨below_step HB9.out HBF.out⟩⟩
            | false =>
              have HL3 : Aside0 (bdL lt (fun o => impl_DuelValue.f k o (⟨#[]⟩ : ByteArray)) (all.drop (i + 1)) (decide (i + 1 = 0)) best out = some (g1, g2)) := ⟨by have h_ := HL2.out; rw [if_neg (by rintro (h_ | h_); exact h0 (of_decide_eq_true h_); rw [hb] at h_; cases h_)] at h_; rw [HDC.out]; exact h_⟩
              clear HL2 h0
              go_wp2_with (first | (go_at_call 9; (refine (impl_DuelValue.calls k (some ad1) c1 o1 (⟨#[]⟩ : ByteArray) x xb _ HC1.out HLC.out HFX.out).mono ?_); rintro e w9 ⟨rfl, hb9⟩; have HB9 := Aside0.mk (below_step HB.out hb9); have HO9 := Aside0.mk (Kd.S_below HO.out hb9); have HRB := Aside0.mk (Kd.R_below HR.out hb9); have HRO := Aside0.mk (Kd.R_below HR1.out hb9); clear hb9) | (go_at_fn g; (with_reducible refine (HT.out.at_ _ x best).mono ?_); rintro e w10 ⟨he, hbf⟩; rw [hb] at he; subst he; have HBF := Aside0.mk hbf; clear hbf))
              go_roundg k1
              case measure => omega
              case rel => exact ⟨i + 1, best, out, some ad0, cb, rfl, rfl, by rw [E1.out], ⟨by have := HK.out; omega⟩, HL3, ⟨.inr ⟨by omega, _, rfl⟩⟩, ⟨Kd.R_below HRB.out HBF.out⟩, ⟨Kd.S_below HO9.out HBF.out⟩, ⟨below_step HB9.out HBF.out⟩⟩
        · rw [if_neg hpos] at hl
          cases hl
      · obtain rfl : i = all.length := by have := HK.out; omega
        have hl := HL.out
        rw [List.drop_length] at hl
        have h' := Option.some.inj hl
        simp only [Prod.mk.injEq] at h'
        obtain ⟨rfl, rfl⟩ := h'
        clear hl HL
        go_wp2
        go_ret3
        exact ⟨_, rfl, HR.out, HB.out⟩

set_option maxHeartbeats 8000000 in
theorem MostDuel_tells : TellsLt Try.prog 120 #[] (fun a b => decide (b < a)) := by
  intro W a b
  show Calls Try.prog 120 #[.int .i64 a, .int .i64 b] W _
  go_enter Try.func120, Try.ntmps120
  go_wp2
  go_ret
  exact ⟨rfl, Below.refl _ _⟩
def impl_MostDuel.f (k : Nat) (n : Int) : Option (Int × List Int × Bool) := bduelF k (fun a b => decide (b < a)) n
theorem impl_MostDuel.mono : ∀ a0 k, LeO (impl_MostDuel.f k a0) (impl_MostDuel.f (k + 1) a0) := fun a0 k => bduelF_le k _ a0
set_option maxHeartbeats 8000000 in
theorem impl_MostDuel.calls (k : Nat) (a0 : Int) (r1 : Int) (r2 : List Int) (r3 : Bool) (w : World) (h : impl_MostDuel.f k a0 = some (r1, r2, r3)) :
    Calls Try.prog 50 #[.int .i64 a0] w fun e w' => ∃ v0_ : Value, e = .returned (.tuple #[.int .i64 r1, v0_, .bool r3]) ∧ Kd.R (Kd.int .i64) 3 w' w.heap.size (fun _ => True) v0_ r2 ∧ Below w.heap.size w w' := by
  have H := Aside0.mk h
  have eg : ∀ args w, (callFunc 120 args).run Try.prog w = .ok (.enter 120 args) w := enters_of Try.func120 (by kernel_rfl) rfl
  clear h
  go_enter Try.func50, Try.ntmps50
  go_wp2_with (go_at_call 119; (refine (bestDuel_calls k 120 #[] eg _ MostDuel_tells a0 r1 r2 r3 _ H.out).mono ?_); rintro e w7 ⟨v7, rfl, hR, hb⟩; have HR7 := Aside0.mk hR; have HB7 := Aside0.mk hb; clear hR hb)
  go_ret3
  exact ⟨_, rfl, HR7.out, HB7.out⟩

set_option maxHeartbeats 8000000 in
theorem LeastDuel_tells : TellsLt Try.prog 122 #[] (fun a b => decide (a < b)) := by
  intro W a b
  show Calls Try.prog 122 #[.int .i64 a, .int .i64 b] W _
  go_enter Try.func122, Try.ntmps122
  go_wp2
  go_ret
  exact ⟨rfl, Below.refl _ _⟩
def impl_LeastDuel.f (k : Nat) (n : Int) : Option (Int × List Int × Bool) := bduelF k (fun a b => decide (a < b)) n
theorem impl_LeastDuel.mono : ∀ a0 k, LeO (impl_LeastDuel.f k a0) (impl_LeastDuel.f (k + 1) a0) := fun a0 k => bduelF_le k _ a0
set_option maxHeartbeats 8000000 in
theorem impl_LeastDuel.calls (k : Nat) (a0 : Int) (r1 : Int) (r2 : List Int) (r3 : Bool) (w : World) (h : impl_LeastDuel.f k a0 = some (r1, r2, r3)) :
    Calls Try.prog 52 #[.int .i64 a0] w fun e w' => ∃ v0_ : Value, e = .returned (.tuple #[.int .i64 r1, v0_, .bool r3]) ∧ Kd.R (Kd.int .i64) 3 w' w.heap.size (fun _ => True) v0_ r2 ∧ Below w.heap.size w w' := by
  have H := Aside0.mk h
  have eg : ∀ args w, (callFunc 122 args).run Try.prog w = .ok (.enter 122 args) w := enters_of Try.func122 (by kernel_rfl) rfl
  clear h
  go_enter Try.func52, Try.ntmps52
  go_wp2_with (go_at_call 119; (refine (bestDuel_calls k 122 #[] eg _ LeastDuel_tells a0 r1 r2 r3 _ H.out).mono ?_); rintro e w7 ⟨v7, rfl, hR, hb⟩; have HR7 := Aside0.mk hR; have HB7 := Aside0.mk hb; clear hR hb)
  go_ret3
  exact ⟨_, rfl, HR7.out, HB7.out⟩

end Go.Proofs.Ytnoapomobflknaa.Xw
