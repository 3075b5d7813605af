/- impl.mean and drawnMean at any function value that tells numbers of lists; impl.MeanPasses by them. -/
import Derived.Test.YteccmfcmkghbgaaZqXq0
import Derived.Test.YteccmfcmkghbgaaZqXq8
import Derived.Test.YteccmfcmkghbgaaZqXq9
import Derived.OneCell
import Derived.Lib.SliceRun
import Derived.Shelf.Abstract
import Derived.Outline
namespace Go.Proofs.Yteccmfcmkghbgaa.Xq
open Go.RowKit Go.Proofs.YteccmfcmkghbgaaW.PrintWords Go.Proofs.YteccmfcmkghbgaaW.PrintLast Go.Proofs.YteccmfcmkghbgaaW.PrintMore
attribute [local go_sem] max2_int min2_int max_two min_two max_three min_three max_four min_four
set_option linter.unusedVariables false
set_option linter.unusedSimpArgs false
theorem mn_cell_of_two {w : World} {b e : Nat} {v0 v1 : Value} (h : w.heap[b]? = some (.cells #[v0, v1] e (0, 0))) : w.cell? ⟨b, 0, none⟩ = some v0 ∧ w.cell? ⟨b, 1, none⟩ = some v1 := by
  constructor <;> simp [World.cell?, h]
theorem mn_free_of_two {w : World} {b e : Nat} {v0 v1 : Value} (h : w.heap[b]? = some (.cells #[v0, v1] e (0, 0))) : w.frozen? ⟨b, 0, none⟩ = false ∧ w.frozen? ⟨b, 1, none⟩ = false := by
  constructor <;> simp [World.frozen?, h]
/-- A function value that tells F of lists, in worlds with S; it may lay blocks. -/
def TellsI (P : Program) (g : Nat) (lb : Array Value) (F : List Int → Option Int) (S : World → Prop) : Prop :=
  ∀ (W : World) (A : Option Addr) (c : Nat) (l : List Int) (r : Int), Kd.C (Kd.int .i64) W A l.length l → l.length ≤ c → F l = some r → S W → Calls P g (#[.slice A l.length c] ++ lb) W fun e w' => e = .returned (.int .i64 r) ∧ Below W.heap.size W w'
theorem TellsI.at_ {P : Program} {g : Nat} {lb : Array Value} {F : List Int → Option Int} {S : World → Prop} (h : TellsI P g lb F S) (W : World) (A : Option Addr) (c : Nat) (l : List Int) (r : Int) (hC : Kd.C (Kd.int .i64) W A l.length l) (hc : l.length ≤ c) (hF : F l = some r) (hW : S W) : Calls P g (#[.slice A l.length c] ++ lb) W fun e w' => e = .returned (.int .i64 r) ∧ Below W.heap.size W w' := h W A c l r hC hc hF hW
def TellsB (P : Program) (g : Nat) (lb : Array Value) (F : List Int → Option Bool) (S : World → Prop) : Prop :=
  ∀ (W : World) (A : Option Addr) (c : Nat) (l : List Int) (r : Bool), Kd.C (Kd.int .i64) W A l.length l → l.length ≤ c → F l = some r → S W → Calls P g (#[.slice A l.length c] ++ lb) W fun e w' => e = .returned (.bool r) ∧ Below W.heap.size W w'
theorem TellsB.at_ {P : Program} {g : Nat} {lb : Array Value} {F : List Int → Option Bool} {S : World → Prop} (h : TellsB P g lb F S) (W : World) (A : Option Addr) (c : Nat) (l : List Int) (r : Bool) (hC : Kd.C (Kd.int .i64) W A l.length l) (hc : l.length ≤ c) (hF : F l = some r) (hW : S W) : Calls P g (#[.slice A l.length c] ++ lb) W fun e w' => e = .returned (.bool r) ∧ Below W.heap.size W w' := h W A c l r hC hc hF hW
def meanL (F : List Int → Option Int) : List (List Int) → Int → Option Int
  | [], s => some s
  | o :: t, s => (F o).bind fun x => meanL F t (wrap64 (s + x))
theorem meanL_le {F G : List Int → Option Int} (h : ∀ l, LeO (F l) (G l)) : ∀ l s, LeO (meanL F l s) (meanL G l s)
  | [], _ => LeO.refl _
  | o :: t, s => LeO.bind (h o) fun _ => meanL_le h t _
def meanF (k : Nat) (F : List Int → Option Int) (n : Int) : Option (Int × Int) := (impl_allOrders.f k n).bind fun l => if l.length < 1000000 then (meanL F l 0).bind fun s => (impl_factorial.f k n).bind fun d => impl_fraction.f k s d else none
theorem meanF_le {k : Nat} {F G : List Int → Option Int} (h : ∀ l, LeO (F l) (G l)) (n : Int) : LeO (meanF k F n) (meanF (k + 1) G n) :=
  LeO.bind (impl_allOrders.mono _ _) fun _ => LeO.ite (LeO.bind (meanL_le h _ _) fun _ => LeO.bind (impl_factorial.mono _ _) fun _ => impl_fraction.mono _ _ _) (LeO.none _)
def rdL (l : List (List Int)) (i : Nat) : List Int := l.getD i []
theorem rdL_drop (l : List (List Int)) (i : Nat) (h : i < l.length) : l.drop i = rdL l i :: l.drop (i + 1) := by
  unfold rdL
  rw [List.drop_eq_getElem_cons h]
  simp [h]
theorem at_rows {w : World} {A : Option Addr} {n : Nat} {xs : List (List Int)} (h : Kd.C (Kd.slice 3 (Kd.int .i64)) w A n xs) (i : Nat) (h1 : i < n) : ∃ ad A0 c0, A = some ad ∧ w.cell? (ad.add i) = some (.slice A0 (rdL xs i).length c0) ∧ (rdL xs i).length ≤ c0 ∧ (Kd.int .i64).C w A0 (rdL xs i).length (rdL xs i) := by
  obtain ⟨ad, c, e, _, hK, hc0⟩ := Kd.C_get h ([] : List Int) (i : Int) (by omega) (by omega)
  rw [Int.toNat_natCast] at hK hc0
  have hc : ∀ j u, c[j]? = some u → w.cell? (ad.add (i * 1 + j)) = some u := hc0
  obtain ⟨A0, c0, rfl, l0, g0⟩ := hK
  exact ⟨ad, A0, c0, e, by have hq := hc 0 _ rfl; rwa [Nat.mul_one, Nat.add_zero] at hq, l0, g0⟩
set_option maxHeartbeats 8000000 in
set_option maxRecDepth 100000 in
theorem mean_calls (k : Nat) (g : Nat) (lb : Array Value) (eg : ∀ args w, (callFunc g args).run Try.prog w = .ok (.enter g args) w) (F : List Int → Option Int) (S : World → Prop) (hS : ∀ W W' : World, S W → Below W.heap.size W W' → S W')
    (ht : TellsI Try.prog g lb F S) (n : Int) (r1 r2 : Int) (w : World) (h : meanF k F n = some (r1, r2)) (h0 : S w) :
    Calls Try.prog 42 #[.int .i64 n, .func (.func g) #[] lb] w fun e w' => e = .returned (.agg #[.int .i64 r1, .int .i64 r2]) ∧ Below w.heap.size w w' := by
  obtain ⟨l, hl, h⟩ := Option.bind_eq_some_iff.1 h
  have hlen : l.length < 1000000 := by
    rcases Nat.lt_or_ge l.length 1000000 with h0 | h0
    · exact h0
    · rw [if_neg (by omega)] at h
      cases h
  rw [if_pos hlen] at h
  obtain ⟨s, hs, h⟩ := Option.bind_eq_some_iff.1 h
  obtain ⟨d, hd, h⟩ := Option.bind_eq_some_iff.1 h
  have hu := Try.underlying22
  have HL := Aside0.mk hl
  have HLEN := Aside0.mk hlen
  have HSUM := Aside0.mk hs
  have HD := Aside0.mk hd
  have HF := Aside0.mk h
  have HT := Aside0.mk ht
  have HS := Aside0.mk hS
  have H0 := Aside0.mk h0
  have HB0 := Aside0.mk (Below.refl w.heap.size w)
  clear hl hlen hs hd h ht hS h0
  go_enter Try.func42, Try.ntmps42
  go_wp2_with (first
    | (go_at_call 63; (refine (impl_allOrders.calls k n l _ HL.out).mono ?_); rintro e w6 ⟨v6, rfl, ho, hb⟩; have ho' := Kd.S_R ho; obtain ⟨A6, c6, e6⟩ := Kd.R_slice ho'; subst e6; have HO := Aside0.mk (Kd.R_reads' ho').2.2; have HB := Aside0.mk hb; clear ho ho' hb))
  have HX : Aside0 (w6.heap[w.heap.size]? = some (.cells #[.int .i64 0, .int .i64 0] 22 (0, 0))) := ⟨(HB.out.block _ (by rw [World.size_alloc]; omega)).trans (blk_new w _)⟩
  have HB6 := Aside0.mk (below_step (below_alloc HB0.out _) HB.out)
  clear HB
  go_loopg [5, 11] l.length (fun kq v5 v11 w' => ∃ (i : Nat) (q : Int), v5 = .int .i64 q ∧ v11 = .int .i64 (i : Int) ∧ Aside0 (i + kq = l.length) ∧ Aside0 (meanL F (l.drop i) q = some s) ∧ Aside0 (w'.heap[w.heap.size]? = some (.cells #[.int .i64 0, .int .i64 0] 22 (0, 0))) ∧ Aside0 (Kd.C (Kd.slice 3 (Kd.int .i64)) w' A6 l.length l) ∧ Aside0 (Below w.heap.size w w'))
  case atStart => exact ⟨0, 0, rfl, rfl, ⟨by omega⟩, HSUM, HX, HO, HB6⟩
  case round =>
    clear HO HB6 HX HSUM
    obtain ⟨i, q, rfl, rfl, HK, HSUM, HX, HO, HB⟩ := hrel
    by_cases hi : i < l.length
    · obtain ⟨k1, hk1⟩ : ∃ k1, gk = k1 + 1 := ⟨gk - 1, by have := HK.out; omega⟩
      subst hk1
      have hd0 : decide (0 ≤ (i : Int)) = true := decide_eq_true (by omega)
      have hd1 : decide (i < l.length) = true := decide_eq_true hi
      have hsum := HSUM.out
      rw [rdL_drop l i hi] at hsum
      obtain ⟨x, hx, hsum⟩ := Option.bind_eq_some_iff.1 hsum
      obtain ⟨ad, A0, c0, eA, hcell, hlc, hC⟩ := at_rows HO.out i hi
      subst eA
      have HFX := Aside0.mk hx
      have HSUM2 := Aside0.mk hsum
      have HLC := Aside0.mk hlc
      have HC := Aside0.mk hC
      have E1 := Aside0.mk (show wrap64 ((i : Int) + 1) = ((i + 1 : Nat) : Int) by have := HLEN.out; unfold wrap64; omega)
      clear hx hsum hlc hC HSUM
      generalize rdL l i = o at hcell HFX HLC HC
      go_wp2_with (go_at_fn g; (with_reducible refine (HT.out.at_ _ A0 c0 o x ?_ HLC.out HFX.out ?_).mono ?_); (first | exact HC.out | exact Kd.C_drewN HC.out _ | exact Kd.C_drew HC.out); (exact HS.out _ _ H0.out (by repeat (first | exact HB.out | apply pw_below_drewN | apply below_drew1))); rintro e w7 ⟨rfl, hb⟩; have HB7 := Aside0.mk (below_step HB.out hb); have HX7 := Aside0.mk ((hb.block _ (lt_of_block HX.out)).trans HX.out); have HO7 := Aside0.mk (Kd.C_below HO.out hb); clear hb)
      go_roundg k1
      case measure => omega
      case rel => exact ⟨i + 1, wrap64 (q + x), rfl, by rw [E1.out], ⟨by have := HK.out; omega⟩, HSUM2, HX7, HO7, HB7⟩
    · obtain rfl : i = l.length := by have := HK.out; omega
      have hs := HSUM.out
      rw [List.drop_length] at hs
      obtain rfl := Option.some.inj hs
      have fx := (mn_free_of_two HX.out).1
      have fx1 := (mn_free_of_two HX.out).2
      clear hs HSUM
      go_wp2_with (first
        | (go_at_call 65; (with_reducible refine (impl_factorial.calls k _ d _ HD.out).mono ?_); rintro e w8 ⟨rfl, ⟨nd, rfl⟩⟩)
        | (go_at_call 64; (with_reducible refine (impl_fraction.calls k _ _ r1 r2 _ HF.out).mono ?_); rintro e w9 ⟨rfl, hb⟩; have HB9 := Aside0.mk (below_step HB.out (show Below wr.heap.size wr w9 from ⟨hb.os, hb.tape, hb.output, hb.size, hb.block⟩)); have HX9 := Aside0.mk ((hb.block _ (lt_of_block HX.out)).trans HX.out); have c0 := (mn_cell_of_two HX9.out).1; have c1 := (mn_cell_of_two HX9.out).2; have f0 := (mn_free_of_two HX9.out).1; have f1 := (mn_free_of_two HX9.out).2; clear hb))
      have g0 := blk_put HX9.out 0 (.int .i64 r1) rfl
      have g1 := blk_put g0 1 (.int .i64 r2) rfl
      refine bodyPost_ret (v := .agg #[.int .i64 r1, .int .i64 r2]) ?_ rfl ?_
      · exact results_single (r := .cell 4 22) rfl (.cell w.heap.size 22 #[.int .i64 r1, .int .i64 r2] (0, 0) _ rfl g1 hu rfl (by kernel_rfl) .nil)
      · exact ⟨rfl, below_set (below_set HB9.out (Nat.le_refl _)) (Nat.le_refl _)⟩
/-- The mean, if so many are drawn. -/
def drawnF (k : Nat) (F : List Int → Option Int) (n : Int) (right : Bool) : Option (Int × Int × Bool) := (impl_isDrawn.f n).bind fun t => if (t && right) = true then (meanF k F n).bind fun r => some (r.1, r.2, true) else some (0, 0, false)
theorem drawnF_le {k : Nat} {F G : List Int → Option Int} (h : ∀ l, LeO (F l) (G l)) (n : Int) (right : Bool) : LeO (drawnF k F n right) (drawnF (k + 1) G n right) :=
  LeO.bind (LeO.refl _) fun _ => LeO.ite (LeO.bind (meanF_le h n) fun _ => LeO.refl _) (LeO.refl _)
set_option maxHeartbeats 8000000 in
set_option maxRecDepth 100000 in
theorem drawnMean_calls (k : Nat) (g : Nat) (lb : Array Value) (eg : ∀ args w, (callFunc g args).run Try.prog w = .ok (.enter g args) w) (F : List Int → Option Int) (S : World → Prop) (hS : ∀ W W' : World, S W → Below W.heap.size W W' → S W')
    (ht : TellsI Try.prog g lb F S) (n : Int) (right : Bool) (r1 r2 : Int) (r3 : Bool) (w : World) (h : drawnF k F n right = some (r1, r2, r3)) (h0 : S w) :
    Calls Try.prog 20 #[.int .i64 n, .bool right, .func (.func g) #[] lb] w fun e w' => e = .returned (.tuple #[.agg #[.int .i64 r1, .int .i64 r2], .bool r3]) ∧ Below w.heap.size w w' := by
  obtain ⟨t, ht1, h⟩ := Option.bind_eq_some_iff.1 h
  have hu := Try.underlying22
  have HT1 := Aside0.mk ht1
  have HT := Aside0.mk ht
  have HS := Aside0.mk hS
  have H0 := Aside0.mk h0
  have HB0 := Aside0.mk (below_alloc (Below.refl w.heap.size w) (.cells #[.int .i64 0, .int .i64 0] 22))
  have HX := Aside0.mk (blk_new w (.cells #[.int .i64 0, .int .i64 0] 22))
  clear ht1 ht hS h0
  by_cases hc : (t && right) = true
  · rw [if_pos hc] at h
    obtain ⟨⟨q1, q2⟩, hm, h⟩ := Option.bind_eq_some_iff.1 h
    have h' := Option.some.inj h
    simp only [Prod.mk.injEq] at h'
    obtain ⟨rfl, rfl, rfl⟩ := h'
    have HM := Aside0.mk hm
    simp only [Bool.and_eq_true] at hc
    obtain ⟨rfl, rfl⟩ := hc
    clear h hm
    have fx := (mn_free_of_two HX.out).1
    have fx1 := (mn_free_of_two HX.out).2
    go_enter Try.func20, Try.ntmps20
    go_wp2_with (first
      | (go_at_call 41; (with_reducible refine (impl_isDrawn.calls n true _ HT1.out).mono ?_); rintro e w6 ⟨rfl, ⟨nd, rfl⟩⟩)
      | (go_at_call 42; (refine (mean_calls k g lb eg F S HS.out HT.out n q1 q2 _ HM.out ?_).mono ?_); (exact HS.out _ _ H0.out (by repeat (first | exact HB0.out | apply pw_below_drewN | apply below_drew1))); rintro e w7 ⟨rfl, hb⟩; have HB7 := Aside0.mk (below_step (pw_below_drewN HB0.out _) hb); have HX7 := Aside0.mk ((hb.block _ (lt_of_block HX.out)).trans HX.out); have c0 := (mn_cell_of_two HX7.out).1; have c1 := (mn_cell_of_two HX7.out).2; have f0 := (mn_free_of_two HX7.out).1; have f1 := (mn_free_of_two HX7.out).2; clear hb))
    have g0 := blk_put HX7.out 0 (.int .i64 q1) rfl
    have g1 := blk_put g0 1 (.int .i64 q2) rfl
    refine bodyPost_ret (v := .tuple #[.agg #[.int .i64 q1, .int .i64 q2], .bool true]) ?_ rfl ?_
    · exact results_list (rs := [.cell 6 22, .tmp 7]) rfl (by simp) (.cell w.heap.size 22 #[.int .i64 q1, .int .i64 q2] (0, 0) _ rfl g1 hu rfl (by kernel_rfl) (.tmp .nil))
    · exact ⟨rfl, below_set (below_set HB7.out (Nat.le_refl _)) (Nat.le_refl _)⟩
  · rw [if_neg hc] at h
    have h' := Option.some.inj h
    simp only [Prod.mk.injEq] at h'
    obtain ⟨rfl, rfl, rfl⟩ := h'
    have c0 := (mn_cell_of_two HX.out).1
    have c1 := (mn_cell_of_two HX.out).2
    have f0 := (mn_free_of_two HX.out).1
    have f1 := (mn_free_of_two HX.out).2
    clear h
    cases t with
    | false =>
      clear hc
      go_enter Try.func20, Try.ntmps20
      go_wp2_with (go_at_call 41; (with_reducible refine (impl_isDrawn.calls n false _ HT1.out).mono ?_); rintro e w6 ⟨rfl, ⟨nd, rfl⟩⟩)
      have g0 := blk_put (w := (w.alloc (.cells #[.int .i64 0, .int .i64 0] 22)).drewN nd) HX.out 0 (.int .i64 0) rfl
      have g1 := blk_put g0 1 (.int .i64 0) rfl
      refine bodyPost_ret (v := .tuple #[.agg #[.int .i64 0, .int .i64 0], .bool false]) ?_ rfl ?_
      · exact results_list (rs := [.cell 6 22, .tmp 7]) rfl (by simp) (.cell w.heap.size 22 #[.int .i64 0, .int .i64 0] (0, 0) _ rfl g1 hu rfl (by kernel_rfl) (.tmp .nil))
      · exact ⟨rfl, below_set (below_set (pw_below_drewN HB0.out _) (Nat.le_refl _)) (Nat.le_refl _)⟩
    | true =>
      cases right with
      | true => exact absurd rfl hc
      | false =>
        clear hc
        go_enter Try.func20, Try.ntmps20
        go_wp2_with (go_at_call 41; (with_reducible refine (impl_isDrawn.calls n true _ HT1.out).mono ?_); rintro e w6 ⟨rfl, ⟨nd, rfl⟩⟩)
        have g0 := blk_put (w := (w.alloc (.cells #[.int .i64 0, .int .i64 0] 22)).drewN nd) HX.out 0 (.int .i64 0) rfl
        have g1 := blk_put g0 1 (.int .i64 0) rfl
        refine bodyPost_ret (v := .tuple #[.agg #[.int .i64 0, .int .i64 0], .bool false]) ?_ rfl ?_
        · exact results_list (rs := [.cell 6 22, .tmp 7]) rfl (by simp) (.cell w.heap.size 22 #[.int .i64 0, .int .i64 0] (0, 0) _ rfl g1 hu rfl (by kernel_rfl) (.tmp .nil))
        · exact ⟨rfl, below_set (below_set (pw_below_drewN HB0.out _) (Nat.le_refl _)) (Nat.le_refl _)⟩
theorem ps_full {W : World} {A : Option Addr} {n : Nat} {xs : List Int} (h : Kd.C (Kd.int .i64) W A n xs) : Kd.F (Kd.int .i64) W (fun _ => True) A n xs := by
  intro W' hW
  refine ⟨h.1, h.2.1, fun hn => ?_⟩
  obtain ⟨ad, he, hc⟩ := h.2.2 hn
  refine ⟨ad, he, fun j p hj => ?_⟩
  obtain ⟨cs, h1, h2, h3⟩ := hc j p hj
  refine ⟨cs, h1, h2, fun i u hu => ?_⟩
  have h4 := h3 i u hu
  have hb := World.block_lt_of_cell? _ _ h4
  simp only [World.cell?] at h4 ⊢
  rw [hW _ trivial hb]
  exact h4
def passF (k : Nat) (l : List Int) : Option Int := (impl_CountPasses.f k l).bind fun r => some r.1
set_option maxHeartbeats 8000000 in
set_option maxRecDepth 100000 in
theorem passes_tells (k : Nat) : TellsI Try.prog 34 #[] (passF k) (fun _ => True) := by
  intro W A c l r hC hc hF _
  show Calls Try.prog 34 #[.slice A l.length c] W _
  obtain ⟨⟨q1, q2⟩, hq, hF⟩ := Option.bind_eq_some_iff.1 hF
  obtain rfl := Option.some.inj hF
  have HC := Aside0.mk hC
  have HLC := Aside0.mk hc
  have HQ := Aside0.mk hq
  clear hC hc hq hF
  go_enter Try.func34, Try.ntmps34
  go_wp2_with (go_at_call 35; (refine (impl_CountPasses.calls k (fun _ => True) A c l q1 q2 _ (Kd.V_mk HLC.out (ps_full (by first | exact HC.out | exact Kd.C_drewN HC.out _ | exact Kd.C_drew HC.out))) HQ.out).mono ?_); rintro e w7 ⟨rfl, hb⟩; have HB7 := Aside0.mk hb; clear hb)
  go_ret
  exact ⟨rfl, HB7.out⟩
def impl_MeanPasses.f (k : Nat) (a0 : Int) : Option (Int × Int × Bool) := drawnF k (passF k) a0 true
theorem impl_MeanPasses.mono : ∀ a0 k, LeO (impl_MeanPasses.f k a0) (impl_MeanPasses.f (k + 1) a0) := fun a0 k => drawnF_le (fun l => LeO.bind (impl_CountPasses.mono _ _) fun _ => LeO.refl _) a0 true
set_option maxHeartbeats 8000000 in
set_option maxRecDepth 100000 in
theorem impl_MeanPasses.calls (k : Nat) (a0 : Int) (r1_0 r1_1 : Int) (r2 : Bool) (w : World) (h : impl_MeanPasses.f k a0 = some (r1_0, r1_1, r2)) :
    Calls Try.prog 15 #[.int .i64 a0] w fun e w' => e = .returned (.tuple #[.agg #[.int .i64 r1_0, .int .i64 r1_1], .bool r2]) ∧ Below w.heap.size w w' := by
  have hu := Try.underlying22
  have H := Aside0.mk h
  have HB0 := Aside0.mk (below_alloc (Below.refl w.heap.size w) (.cells #[.int .i64 0, .int .i64 0] 22))
  have HX := Aside0.mk (blk_new w (.cells #[.int .i64 0, .int .i64 0] 22))
  have eg : ∀ args w, (callFunc 34 args).run Try.prog w = .ok (.enter 34 args) w := enters_of Try.func34 (by kernel_rfl) rfl
  clear h
  go_enter Try.func15, Try.ntmps15
  go_wp2_with (go_at_call 20; (refine (drawnMean_calls k 34 #[] eg _ (fun _ => True) (fun _ _ _ _ => trivial) (passes_tells k) a0 true r1_0 r1_1 r2 _ H.out trivial).mono ?_); rintro e w7 ⟨rfl, hb⟩; have HB7 := Aside0.mk (below_step HB0.out hb); have HX7 := Aside0.mk ((hb.block _ (lt_of_block HX.out)).trans HX.out); have c0 := (mn_cell_of_two HX7.out).1; have c1 := (mn_cell_of_two HX7.out).2; have f0 := (mn_free_of_two HX7.out).1; have f1 := (mn_free_of_two HX7.out).2; clear hb)
  have g0 := blk_put HX7.out 0 (.int .i64 r1_0) rfl
  have g1 := blk_put g0 1 (.int .i64 r1_1) rfl
  refine bodyPost_ret (v := .tuple #[.agg #[.int .i64 r1_0, .int .i64 r1_1], .bool r2]) ?_ rfl ?_
  · exact results_list (rs := [.cell 2 22, .tmp 3]) rfl (by simp) (.cell w.heap.size 22 #[.int .i64 r1_0, .int .i64 r1_1] (0, 0) _ rfl g1 hu rfl (by kernel_rfl) (.tmp .nil))
  · exact ⟨rfl, below_set (below_set HB7.out (Nat.le_refl _)) (Nat.le_refl _)⟩

end Go.Proofs.Yteccmfcmkghbgaa.Xq
