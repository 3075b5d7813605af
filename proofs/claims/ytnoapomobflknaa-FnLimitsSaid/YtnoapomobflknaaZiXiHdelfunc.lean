/- slices.DeleteFunc at []string with a closure that allocates at most; impl.within by it. -/
import Derived.Test.YtnoapomobflknaaZiXi0
import Derived.Test.YtnoapomobflknaaZiXi3
import Derived.Test.YtnoapomobflknaaZiXi8
import Derived.OneCell
import Derived.Lib.SliceRun
import Derived.Shelf.Abstract
import Derived.Outline
namespace Go.Proofs.Ytnoapomobflknaa.Xi
open Go.RowKit Go.Proofs.YtnoapomobflknaaW.PrintWords Go.Proofs.YtnoapomobflknaaW.PrintLast Go.Proofs.YtnoapomobflknaaW.PrintMore
attribute [local go_sem] max2_int min2_int max_two min_two max_three min_three max_four min_four
set_option linter.unusedVariables false
set_option linter.unusedSimpArgs false
/-- The first place at which p holds, -1 if there is none. -/
def fidx (p : ByteArray → Bool) : List ByteArray → Int → Int
  | [], _ => -1
  | x :: t, i => if p x = true then i else fidx p t (i + 1)
def rdS (l : List ByteArray) (i : Nat) : ByteArray := rdOf ByteArray.empty l (i : Int)
theorem rdS_drop (l : List ByteArray) (i : Nat) (h : i < l.length) : l.drop i = rdS l i :: l.drop (i + 1) := by
  unfold rdS rdOf
  rw [Int.toNat_natCast, List.drop_eq_getElem_cons h]
  simp [h]
/-- A function value that tells p of the texts x with D x, in worlds with S; it may lay blocks. -/
def TellsStr (P : Program) (g : Nat) (lb : Array Value) (p : ByteArray → Bool) (D : ByteArray → Prop) (S : World → Prop) : Prop :=
  ∀ (W : World) (x : ByteArray), D x → S W → Calls P g (#[.string x] ++ lb) W fun e w' => e = .returned (.bool (p x)) ∧ Below W.heap.size W w'
theorem TellsStr.at_ {P : Program} {g : Nat} {lb : Array Value} {p : ByteArray → Bool} {D : ByteArray → Prop} {S : World → Prop} (h : TellsStr P g lb p D S) (W : World) (x : ByteArray) (hx : D x) (hW : S W) : Calls P g (#[.string x] ++ lb) W fun e w' => e = .returned (.bool (p x)) ∧ Below W.heap.size W w' := h W x hx hW
set_option maxHeartbeats 4000000 in
set_option maxRecDepth 100000 in
theorem IndexFunc_str (g : Nat) (lb : Array Value) (eg : ∀ args w, (callFunc g args).run Try.prog w = .ok (.enter g args) w) (p : ByteArray → Bool) (D : ByteArray → Prop) (S : World → Prop)
    (hS : ∀ W W' : World, S W → Below W.heap.size W W' → S W') (ht : TellsStr Try.prog g lb p D S) (A : Option Addr) (c : Nat) (l : List ByteArray) (w : World) (hr : Kd.C Kd.string w A l.length l) (hc : l.length ≤ c) (hD : ∀ x ∈ l, D x) (h0 : S w) :
    Calls Try.prog 169 #[.slice A l.length c, .func (.func g) #[] lb] w fun e w' => e = .returned (.int .i64 (fidx p l 0)) ∧ Below w.heap.size w w' := by
  have HR := Aside0.mk hr
  have HC := Aside0.mk hc
  have HD := Aside0.mk hD
  have H0 := Aside0.mk h0
  have HT := Aside0.mk ht
  have HS := Aside0.mk hS
  have hmax := Kd.C_max hr
  have HM := Aside0.mk hmax
  clear hr hc hD h0 ht hS hmax
  go_enter Try.func169, Try.ntmps169
  go_wp2
  go_loopg [8] l.length (fun kq v8 w' => ∃ (i : Nat), v8 = .int .i64 (i : Int) ∧ Aside0 (i + kq = l.length) ∧ Aside0 (fidx p (l.drop i) (i : Int) = fidx p l 0) ∧ Aside0 (Below w.heap.size w w') ∧ Aside0 (S w'))
  case atStart => exact ⟨0, rfl, ⟨by omega⟩, ⟨rfl⟩, ⟨Below.refl _ _⟩, H0⟩
  case round =>
    clear H0
    obtain ⟨i, rfl, HK, HF, HB, HW⟩ := hrel
    by_cases hi : i < l.length
    · obtain ⟨k1, hk1⟩ : ∃ k1, gk = k1 + 1 := ⟨gk - 1, by have := HK.out; omega⟩
      subst hk1
      have d1 : decide (i < l.length) = true := decide_eq_true hi
      obtain ⟨ad, hA, hcell⟩ := Kd.at_string (Kd.C_below HR.out HB.out) (i : Int) (by omega) (by omega)
      subst hA
      rw [Int.toNat_natCast] at hcell
      have d2 : decide (0 ≤ (i : Int)) = true := decide_eq_true (by omega)
      have e1 : wrap64 ((i : Int) + 1) = ((i + 1 : Nat) : Int) := by have := HM.out; unfold wrap64; omega
      have E1 := Aside0.mk e1
      have HX := Aside0.mk (rdS_drop l i hi)
      have HDX : Aside0 (D (rdS l i)) := ⟨HD.out _ (List.mem_of_mem_drop (i := i) (by rw [HX.out]; simp))⟩
      clear e1
      change wr.cell? (ad.add i) = some (Value.string (rdS l i)) at hcell
      generalize rdS l i = x at hcell HX HDX
      have HF1 : Aside0 ((if p x = true then (i : Int) else fidx p (l.drop (i + 1)) ((i + 1 : Nat) : Int)) = fidx p l 0) := ⟨by have h_ := HF.out; rw [HX.out] at h_; simpa only [fidx, Int.natCast_add, Int.natCast_one] using h_⟩
      clear HF HX
      cases hp : p x with
      | true =>
        have HP := Aside0.mk hp
        clear hp
        go_wp2_with (go_at_fn g; (with_reducible refine (HT.out.at_ _ x HDX.out ?_).mono ?_); (first | exact HW.out | exact HS.out _ _ HW.out (by repeat (first | exact Below.refl _ _ | apply pw_below_drewN | apply below_drew1))); rw [HP.out]; rintro e w6 ⟨rfl, hb⟩; have HB2 := Aside0.mk (below_step HB.out hb); clear hb)
        go_ret
        exact ⟨by rw [← HF1.out, if_pos HP.out]; rfl, HB2.out⟩
      | false =>
        have HP := Aside0.mk hp
        clear hp
        go_wp2_with (go_at_fn g; (with_reducible refine (HT.out.at_ _ x HDX.out ?_).mono ?_); (first | exact HW.out | exact HS.out _ _ HW.out (by repeat (first | exact Below.refl _ _ | apply pw_below_drewN | apply below_drew1))); rw [HP.out]; rintro e w6 ⟨rfl, hb⟩; have HB2 := Aside0.mk (below_step HB.out hb); have HW2 := Aside0.mk (HS.out _ _ HW.out hb); clear hb)
        go_roundg k1
        case measure => omega
        case rel => exact ⟨i + 1, by rw [E1.out], ⟨by have := HK.out; omega⟩, ⟨by have h_ := HF1.out; rw [if_neg (by rw [HP.out]; decide)] at h_; exact h_⟩, HB2, HW2⟩
    · obtain rfl : i = l.length := by have := HK.out; omega
      have d1 : decide ((l.length : Int) < (l.length : Int)) = false := decide_eq_false (by omega)
      go_wp2
      go_ret
      exact ⟨by rw [← HF.out, List.drop_length]; rfl, HB.out⟩
theorem fidx_spec (p : ByteArray → Bool) : ∀ (l : List ByteArray) (i : Int), (fidx p l i = -1 ∧ ∀ x ∈ l, p x = false) ∨ ∃ k : Nat, k < l.length ∧ fidx p l i = i + (k : Int) ∧ p (rdS l k) = true ∧ ∀ x ∈ l.take k, p x = false
  | [], i => .inl ⟨rfl, by simp⟩
  | y :: t, i => by
    cases h : p y with
    | true => exact .inr ⟨0, by simp, by simp [fidx, h], by simpa [rdS, rdOf] using h, by simp⟩
    | false =>
      rcases fidx_spec p t (i + 1) with ⟨e, ha⟩ | ⟨k, hk, e, ht, ha⟩
      · refine .inl ⟨by simp [fidx, h, e], ?_⟩
        intro x hx
        rcases List.mem_cons.1 hx with rfl | hx
        · exact h
        · exact ha x hx
      · refine .inr ⟨k + 1, by simpa using hk, by simp only [fidx, h]; rw [if_neg (by decide), e]; omega, ?_, ?_⟩
        · have : rdS (y :: t) (k + 1) = rdS t k := by
            unfold rdS rdOf
            rw [Int.toNat_natCast, Int.toNat_natCast]
            simp
          rw [this]
          exact ht
        · intro x hx
          rw [List.take_succ_cons] at hx
          rcases List.mem_cons.1 hx with rfl | hx
          · exact h
          · exact ha x hx
theorem rdS_take (l : List ByteArray) (j : Nat) (h : j < l.length) : l.take (j + 1) = l.take j ++ [rdS l j] := by
  have : rdS l j = l[j] := by
    unfold rdS rdOf
    rw [Int.toNat_natCast]
    simp [h]
  rw [this]
  exact (List.take_append_getElem h).symm
/-- A row's first part stays where what lies behind it is written. -/
theorem own_clear {w : World} {base e b n c i : Nat} {xs vs : List Value} (h : w.ownsRow base e 1 (.slice (some ⟨b, 0, none⟩) n c) n xs) (hi : i ≤ n) (hv : i + vs.length ≤ n) :
    (w.setCells b i vs).ownsRow base e 1 (.slice (some ⟨b, 0, none⟩) i c) i (xs.take i) ∧ w.grownBy (w.setCells b i vs) (some b) := by
  obtain ⟨hl, h⟩ := h
  rcases h with ⟨hx, _⟩ | ⟨g, cap, cur, hx, hb, hh, hnc, hcm, hcs, ht⟩
  · cases hx
  · injection hx with ha _ hc
    injection ha with ha
    injection ha with hg
    subst hg; subst hc
    obtain ⟨cur', h3, h4, h5⟩ := setCells_row vs i w cur hh (by omega)
    obtain ⟨s1, s2, s3, s4⟩ := setCells_same b vs i w
    refine ⟨⟨by rw [List.length_take]; omega, .inr ⟨b, c, cur', rfl, hb, h3, by omega, hcm, by omega, ?_⟩⟩, ⟨s1, s2, s3, by rw [s4]; exact Nat.le_refl _, fun k _ hk => setCells_far vs i k (fun e => hk (by rw [e]))⟩⟩
    rw [h5, ← ht, Nat.mul_one, List.take_take, Nat.mul_one, Nat.min_eq_left (by omega), List.append_assoc]
    exact List.take_left' (by rw [List.length_take, Array.length_toList]; omega)
set_option maxHeartbeats 8000000 in
set_option maxRecDepth 100000 in
theorem DeleteFunc_str (g : Nat) (lb : Array Value) (eg : ∀ args w, (callFunc g args).run Try.prog w = .ok (.enter g args) w) (p : ByteArray → Bool) (D : ByteArray → Prop) (S : World → Prop)
    (hS : ∀ W W' : World, S W → Below W.heap.size W W' → S W') (ht : TellsStr Try.prog g lb p D S) (b c : Nat) (hSs : ∀ (W : World) (q : Nat) (v : Value), S W → S (W.setCell ⟨b, q, none⟩ v)) (l : List ByteArray) (w0 w : World) (ok : Nat → Prop)
    (ho : Kd.R Kd.string 9 w w0.heap.size ok (.slice (some ⟨b, 0, none⟩) l.length c) l) (hB : Below w0.heap.size w0 w) (hD : ∀ x ∈ l, D x) (h0 : S w) :
    Calls Try.prog 159 #[.slice (some ⟨b, 0, none⟩) l.length c, .func (.func g) #[] lb] w fun e w' => e = .returned (.slice (some ⟨b, 0, none⟩) (l.filter fun x => !p x).length c) ∧ Kd.R Kd.string 9 w' w0.heap.size ok (.slice (some ⟨b, 0, none⟩) (l.filter fun x => !p x).length c) (l.filter fun x => !p x) ∧ Below w0.heap.size w0 w' := by
  obtain ⟨_, hnc, hC⟩ := Kd.R_reads' ho
  have hmax := Kd.C_max hC
  have hbase : w0.heap.size ≤ b := Kd.R_base ho b rfl
  have hIF := IndexFunc_str g lb eg p D S hS ht (some ⟨b, 0, none⟩) c l w hC hnc hD h0
  have HO := Aside0.mk ho
  have HB := Aside0.mk hB
  have HD := Aside0.mk hD
  have HS := Aside0.mk hS
  have HSs := Aside0.mk hSs
  have HT := Aside0.mk ht
  have H0 := Aside0.mk h0
  have HM := Aside0.mk hmax
  have HNC := Aside0.mk hnc
  have HBA := Aside0.mk hbase
  have HIF := Aside0.mk hIF
  have hspec := fidx_spec p l 0
  clear ho hB hD hS hSs ht h0 hmax hnc hC hbase hIF
  rcases hspec with ⟨e, ha⟩ | ⟨k, hk, e, hp, ha⟩
  · have HF : Aside0 (l.filter (fun x => !p x) = l) := ⟨List.filter_eq_self.2 (fun x hx => by rw [ha x hx]; rfl)⟩
    rw [HF.out]
    have HIF2 := HIF.out
    rw [e] at HIF2
    have HI2 := Aside0.mk HIF2
    clear HIF HIF2 e ha HF
    go_enter Try.func159, Try.ntmps159
    go_wp2_with (go_at_call 169; (with_reducible refine HI2.out.mono ?_); rintro e w6 ⟨rfl, hb⟩; have HB2 := Aside0.mk (below_step HB.out hb); have HO2 := Aside0.mk (Kd.R_below HO.out hb); clear hb)
    go_ret
    exact ⟨rfl, HO2.out, HB2.out⟩
  · have HIF2 := HIF.out
    rw [e, Int.zero_add] at HIF2
    have HI2 := Aside0.mk HIF2
    have HF0 : Aside0 ((l.take (k + 1)).filter (fun x => !p x) = l.take k) := ⟨by
      rw [rdS_take l k hk, List.filter_append, List.filter_eq_self.2 (fun x hx => by rw [ha x hx]; rfl)]
      simp [hp]⟩
    have HK0 := Aside0.mk hk
    have hne : ((k : Int) == -1) = false := beq_eq_false_iff_ne.2 (by omega)
    have e1 : wrap64 ((k : Int) + 1) = ((k + 1 : Nat) : Int) := by have := HM.out; unfold wrap64; omega
    have E0 := Aside0.mk e1
    clear HIF HIF2 e hp ha e1 hk
    obtain ⟨n, hn⟩ : ∃ n : Nat, n = l.length := ⟨_, rfl⟩
    rw [← hn] at HI2 HO HNC HK0 HM ⊢
    have HN := Aside0.mk hn
    clear hn
    go_enter Try.func159, Try.ntmps159
    go_wp2_with (go_at_call 169; (with_reducible refine HI2.out.mono ?_); rintro e w6 ⟨rfl, hb⟩; have HB2 := Aside0.mk (below_step HB.out hb); have HO2 := Aside0.mk (Kd.R_below HO.out hb); have HW2 := Aside0.mk (HS.out _ _ H0.out hb); clear hb)
    go_loopg [5, 6, 7] n (fun kq v5 v6 v7 w' => ∃ (i j : Nat) (xs : List ByteArray), v5 = .int .i64 (i : Int) ∧ v6 = .int .i64 (j : Int) ∧ Aside0 (j ≤ n ∧ n ≤ j + kq) ∧ Aside0 (i < j) ∧ Aside0 (xs.length = n) ∧ Aside0 (xs.take i = (l.take j).filter (fun x => !p x)) ∧ Aside0 (xs.drop j = l.drop j) ∧ Aside0 (Kd.R Kd.string 9 w' w0.heap.size ok (.slice (some ⟨b, 0, none⟩) n c) xs) ∧ Aside0 (Below w0.heap.size w0 w') ∧ Aside0 (S w'))
    case atStart => exact ⟨k, k + 1, l, rfl, by rw [E0.out], ⟨by have := HK0.out; omega⟩, ⟨by omega⟩, ⟨HN.out.symm⟩, ⟨HF0.out.symm⟩, ⟨rfl⟩, HO2, HB2, HW2⟩
    case round =>
      clear HO HB H0 HO2 HB2 HW2 HF0 E0 HK0 hne HI2
      obtain ⟨i, j, xs, rfl, rfl, HJ, HIJ, HX, HT1, HD1, HO, HB, HW⟩ := hrel
      have hxl := HX.out
      have hr := HO.out
      rw [← hxl] at hr
      by_cases hj : j < n
      · obtain ⟨k1, hk1⟩ : ∃ k1, gk = k1 + 1 := ⟨gk - 1, by have := HJ.out; omega⟩
        subst hk1
        have hi : i < n := by have := HIJ.out; omega
        obtain ⟨cj, fj⟩ := Kd.R_cell ByteArray.empty hr (j : Int) (by omega) (by omega)
        obtain ⟨ci, fi⟩ := Kd.R_cell ByteArray.empty hr (i : Int) (by omega) (by omega)
        rw [Int.toNat_natCast] at cj fj ci fi
        have hjl : rdOf ByteArray.empty xs (j : Int) = rdS l j := by
          have h1 := rdS_drop xs j (by omega)
          have h2 := rdS_drop l j (by have := HN.out; omega)
          rw [HD1.out, h2] at h1
          injection h1 with h1 _
          exact h1.symm
        rw [hjl] at cj
        have HDJ : Aside0 (xs.drop (j + 1) = l.drop (j + 1)) := ⟨by
          have h1 := rdS_drop xs j (by omega)
          have h2 := rdS_drop l j (by have := HN.out; omega)
          rw [HD1.out, h2] at h1
          injection h1 with _ h1
          exact h1.symm⟩
        have HTJ := Aside0.mk (rdS_take l j (by have := HN.out; omega))
        have HDX : Aside0 (D (rdS l j)) := ⟨HD.out _ (List.mem_of_mem_drop (i := j) (by rw [rdS_drop l j (by have := HN.out; omega)]; simp))⟩
        have ej := Aside0.mk (show wrap64 ((j : Int) + 1) = ((j + 1 : Nat) : Int) by have := HM.out; unfold wrap64; omega)
        have ei := Aside0.mk (show wrap64 ((i : Int) + 1) = ((i + 1 : Nat) : Int) by have := HM.out; unfold wrap64; omega)
        have d0 : decide (0 ≤ (j : Int)) = true := decide_eq_true (by omega)
        have d1 : decide (0 ≤ (i : Int)) = true := decide_eq_true (by omega)
        clear hjl hr hxl
        generalize rdS l j = x at cj HTJ HDX
        generalize rdOf ByteArray.empty xs (i : Int) = old at ci
        cases hp : p x with
        | true =>
          have HP := Aside0.mk hp
          clear hp
          go_wp2_with (go_at_fn g; (with_reducible refine (HT.out.at_ _ x HDX.out ?_).mono ?_); (first | exact HW.out | exact HS.out _ _ HW.out (by repeat (first | exact Below.refl _ _ | apply pw_below_drewN | apply below_drew1))); rw [HP.out]; rintro e w7 ⟨rfl, hb⟩; have HB2 := Aside0.mk (below_step HB.out hb); have HO2 := Aside0.mk (Kd.R_below HO.out hb); have HW2 := Aside0.mk (HS.out _ _ HW.out hb); clear hb)
          go_roundg k1
          case measure => omega
          case rel => exact ⟨i, j + 1, xs, rfl, by rw [ej.out], ⟨by have := HJ.out; omega⟩, ⟨by have := HIJ.out; omega⟩, HX, ⟨by rw [HT1.out, HTJ.out, List.filter_append]; simp [HP.out]⟩, HDJ, HO2, HB2, HW2⟩
        | false =>
          have HP := Aside0.mk hp
          clear hp
          go_wp2_with (go_at_fn g; (with_reducible refine (HT.out.at_ _ x HDX.out ?_).mono ?_); (first | exact HW.out | exact HS.out _ _ HW.out (by repeat (first | exact Below.refl _ _ | apply pw_below_drewN | apply below_drew1))); rw [HP.out]; rintro e w7 ⟨rfl, hb⟩; have HB2 := Aside0.mk (below_step HB.out hb); have HO2 := Aside0.mk (Kd.R_below HO.out hb); have HW2 := Aside0.mk (HS.out _ _ HW.out hb); have ci2 := (Kd.R_cell ByteArray.empty (show Kd.R Kd.string 9 w7 w0.heap.size ok (.slice (some ⟨b, 0, none⟩) xs.length c) xs by rw [HX.out]; exact HO2.out) (i : Int) (by omega) (by rw [HX.out]; have := HIJ.out; have := HJ.out; omega)); rw [Int.toNat_natCast] at ci2; have ci3 := ci2.1; have fi3 := ci2.2; clear ci2 hb)
          go_roundg k1
          case measure => omega
          case rel =>
            have hput := Kd.R_put (show Kd.R Kd.string 9 w7 w0.heap.size ok (.slice (some ⟨b, 0, none⟩) xs.length c) xs by rw [HX.out]; exact HO2.out) (i : Int) x
            rw [Int.toNat_natCast, HX.out] at hput
            refine ⟨i + 1, j + 1, xs.set i x, by rw [ei.out], by rw [ej.out], ⟨by have := HJ.out; omega⟩, ⟨by have := HIJ.out; omega⟩, ⟨by rw [List.length_set]; exact HX.out⟩, ⟨?_⟩, ⟨?_⟩, ⟨hput.1⟩, ⟨below_set HB2.out HBA.out⟩, ⟨HSs.out _ _ _ HW2.out⟩⟩
            · rw [HTJ.out, List.filter_append, ← HT1.out, List.take_set, List.take_succ_eq_append_getElem (by have := HIJ.out; have := HJ.out; have := HX.out; omega), List.set_append_right _ _ (by rw [List.length_take]; omega)]
              have hil : i ≤ xs.length := by have := HIJ.out; have := HJ.out; have := HX.out; omega
              simp [HP.out, Nat.min_eq_left hil]
            · rw [List.drop_set_of_lt (by have := HIJ.out; omega)]
              exact HDJ.out
      · obtain rfl : j = n := by have := HJ.out; omega
        have hin : i < j := HIJ.out
        have hzs : ∀ w : World, (zeroValue 9).run Try.prog w = .ok (.string ⟨#[]⟩) w := fun _ => by kernel_rfl
        have hcl : ∀ ty, (Builtin.clear_ #[105] ty #[.slice (some ⟨b, i, none⟩) (j - i) (c - i)]).run Try.prog wr = .ok (.tuple #[]) (wr.setCells b i (List.replicate (j - i) (.string ⟨#[]⟩))) := fun ty =>
          Lib.run_clear_slice wr _ _ ty _ Try.underlying105 hzs rfl rfl b i _ _ (by omega)
            (fun q hq => by
              have hc := (Kd.R_cell ByteArray.empty hr ((i + q : Nat) : Int) (by omega) (by omega)).1
              rw [Int.toNat_natCast] at hc
              rw [hc]; rfl)
            (fun q hq => by
              have hc := (Kd.R_cell ByteArray.empty hr ((i + q : Nat) : Int) (by omega) (by omega)).2
              rw [Int.toNat_natCast] at hc
              exact hc)
        have hic : i ≤ c := by have := HNC.out; omega
        have HCL : Aside0 ((wr.setCells b i (List.replicate (j - i) (.string ⟨#[]⟩))).ownsRow w0.heap.size 9 1 (.slice (some ⟨b, 0, none⟩) i c) i ((encs Value.string xs).take i) ∧ wr.grownBy (wr.setCells b i (List.replicate (j - i) (.string ⟨#[]⟩))) (some b)) := ⟨by
          have h_ := Kd.own_of_R hr
          rw [hxl] at h_
          exact own_clear h_ (by omega) (by rw [List.length_replicate]; omega)⟩
        clear hr hxl
        have hci : ¬ c = i := by have := HNC.out; omega
        go_wp2
        go_ret
        have HF : l.filter (fun x => !p x) = xs.take i := by rw [HT1.out, HN.out, List.take_length]
        have hlen : (xs.take i).length = i := by rw [List.length_take]; have := HX.out; omega
        rw [HF, hlen]
        refine ⟨rfl, ?_, HB.out.grown HCL.out.2 HB.out.size (fun k hk => by injection hk with hk; subst hk; exact HBA.out)⟩
        have h1 := HCL.out.1
        rw [show (encs Value.string xs).take i = encs Value.string (xs.take i) by simp [encs, List.map_take]] at h1
        rw [← hlen]
        exact Kd.R_of_own (by rw [hlen, hlen]; exact h1) (fun k hk => HO.out.1 k hk)
/-- The words that are not deeper. -/
def filterD (k : Nat) (d : Int) : List ByteArray → Option (List ByteArray)
  | [] => some []
  | s :: t => (impl_depthOf.f k s).bind fun r => (filterD k d t).bind fun u => some (if d < r.1 then u else s :: u)
def impl_within.f (k : Nat) (a0 : Int) (a1 : Int) : Option (List ByteArray) := (impl_words.f k (⟨#[]⟩ : ByteArray) a0 a0 ([] : List ByteArray)).bind fun l => if l.isEmpty = true then none else filterD k a1 l
theorem filterD_mono (k : Nat) (d : Int) : ∀ l, LeO (filterD k d l) (filterD (k + 1) d l)
  | [] => LeO.refl _
  | s :: t => LeO.bind (impl_depthOf.mono _ _) fun _ => LeO.bind (filterD_mono k d t) fun _ => LeO.refl _
theorem impl_within.mono : ∀ a0 a1 k, LeO (impl_within.f k a0 a1) (impl_within.f (k + 1) a0 a1) := fun a0 a1 k =>
  LeO.bind (impl_words.mono _ _ _ _ _) fun l => LeO.ite (LeO.none _) (filterD_mono k a1 l)
def deepB (k : Nat) (d : Int) (s : ByteArray) : Bool := match impl_depthOf.f k s with
  | some r => decide (d < r.1)
  | none => false
theorem filterD_spec (k : Nat) (d : Int) : ∀ (l r : List ByteArray), filterD k d l = some r → (∀ x ∈ l, ∃ q, impl_depthOf.f k x = some q) ∧ r = l.filter fun x => !deepB k d x
  | [], r, h => by
    obtain rfl := Option.some.inj h
    exact ⟨by simp, rfl⟩
  | s :: t, r, h => by
    obtain ⟨q, hq, h⟩ := Option.bind_eq_some_iff.1 h
    obtain ⟨u, hu, h⟩ := Option.bind_eq_some_iff.1 h
    obtain rfl := Option.some.inj h
    obtain ⟨h1, h2⟩ := filterD_spec k d t u hu
    have hb : deepB k d s = decide (d < q.1) := by unfold deepB; rw [hq]
    refine ⟨?_, ?_⟩
    · intro x hx
      rcases List.mem_cons.1 hx with rfl | hx
      · exact ⟨q, hq⟩
      · exact h1 x hx
    · rw [List.filter_cons, hb, ← h2]
      by_cases hd : d < q.1
      · simp [hd]
      · simp [hd]
set_option maxHeartbeats 4000000 in
set_option maxRecDepth 100000 in
theorem within_tells (k : Nat) (d : Int) (q : Nat) : TellsStr Try.prog 160 #[.pointer (some ⟨q, 0, none⟩)] (deepB k d) (fun x => ∃ r, impl_depthOf.f k x = some r) (fun W => W.cell? ⟨q, 0, none⟩ = some (.int .i64 d)) := by
  intro w x hx hw
  obtain ⟨⟨r1, r2⟩, hr⟩ := hx
  have hb : deepB k d x = decide (d < r1) := by unfold deepB; rw [hr]
  rw [hb]
  have HR := Aside0.mk hr
  have HW := Aside0.mk hw
  clear hb hr hw
  show Calls Try.prog 160 #[.string x, .pointer (some ⟨q, 0, none⟩)] w _
  go_enter Try.func160, Try.ntmps160
  go_wp2_with (go_at_call 113; (with_reducible refine (impl_depthOf.calls k x r1 r2 _ HR.out).mono ?_); rintro e w6 ⟨rfl, hb⟩; have HB := Aside0.mk hb; have hc := pw_cell_below hb HW.out; clear hb)
  all_goals (go_ret; exact ⟨by first | rfl | simp_all, HB.out⟩)
set_option maxHeartbeats 4000000 in
set_option maxRecDepth 100000 in
theorem impl_within.calls (k : Nat) (a0 : Int) (a1 : Int) (r : List ByteArray) (w : World) (h : impl_within.f k a0 a1 = some r) :
    Calls Try.prog 136 #[.int .i64 a0, .int .i64 a1] w fun e w' => ∃ v0_ : Value, e = .returned (v0_) ∧ Kd.R Kd.string 9 w' w.heap.size (fun _ => True) v0_ r ∧ Below w.heap.size w w' := by
  obtain ⟨l, hl, h⟩ := Option.bind_eq_some_iff.1 h
  split at h
  · cases h
  rename_i hne
  have hlen : 0 < l.length := by
    cases l with
    | nil => exact absurd rfl hne
    | cons x t => simp
  obtain ⟨hD, rfl⟩ := filterD_spec k a1 l r h
  have HL := Aside0.mk hl
  have HD := Aside0.mk hD
  have HN := Aside0.mk hlen
  clear hl hD hlen hne h
  have hz : (w.alloc (.cells #[.int .i64 a1] 3)).cell? ⟨w.heap.size, 0, none⟩ = some (.int .i64 a1) := cell_of_one (blk_new w _)
  have HZ := Aside0.mk hz
  have HS0 : Aside0 ((w.alloc (.cells #[.int .i64 a1] 3)).heap.size = w.heap.size + 1) := ⟨World.size_alloc _ _⟩
  have HBA : Aside0 (Below w.heap.size w (w.alloc (.cells #[.int .i64 a1] 3))) := ⟨below_alloc (Below.refl _ _) _⟩
  clear hz
  have eg : ∀ args w, (callFunc 160 args).run Try.prog w = .ok (.enter 160 args) w := enters_of Try.func160 (by kernel_rfl) rfl
  go_enter Try.func136, Try.ntmps136
  go_wp2_with (first
    | (go_at_call 145; (refine (impl_words.calls k (⟨#[]⟩ : ByteArray) a0 a0 (fun k_ => some k_ = (.slice none 0 0 : Value).ownBlock) (.slice none 0 0) ([] : List ByteArray) l (w.alloc (.cells #[.int .i64 a1] 3)) _ (Below.refl _ _) (Kd.R_nil _ _ _ _ _) HL.out).mono ?_); rintro e w6 ⟨v6, rfl, ho, hb, _⟩; obtain ⟨g6, c6, e6, hg6, _⟩ := Kd.R_form ho HN.out; subst e6; rw [HS0.out] at hg6; have HO := Aside0.mk ho; have HB := Aside0.mk hb; have HG := Aside0.mk hg6; clear ho hb hg6)
    | (go_at_call 159; (refine (DeleteFunc_str 160 #[.pointer (some ⟨w.heap.size, 0, none⟩)] eg (deepB k a1) (fun x => ∃ r, impl_depthOf.f k x = some r) (fun W => W.cell? ⟨w.heap.size, 0, none⟩ = some (.int .i64 a1)) (fun W W' h hb => pw_cell_below hb h) (within_tells k a1 w.heap.size) g6 c6 (fun W q v h => (World.cell?_setCell_other W ⟨g6, q, none⟩ ⟨w.heap.size, 0, none⟩ v (by intro e_; have := HG.out; injection e_ with e_; omega)).trans h) l (w.alloc (.cells #[.int .i64 a1] 3)) w6 _ HO.out HB.out HD.out (pw_cell_below HB.out HZ.out)).mono ?_); rintro e w7 ⟨rfl, ho, hb⟩; have HO7 := Aside0.mk ho; have HB7 := Aside0.mk hb; clear ho hb))
  go_ret
  exact ⟨_, rfl, Kd.R_mono (Kd.R_lower HO7.out (by rw [HS0.out]; omega)) (fun _ _ => trivial), below_step HBA.out HB7.out⟩

end Go.Proofs.Ytnoapomobflknaa.Xi
