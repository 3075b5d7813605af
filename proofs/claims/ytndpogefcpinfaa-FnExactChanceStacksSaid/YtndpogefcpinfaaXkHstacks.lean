/- Sharings by stacks: the program's recursive closure, and the chance by it. -/
import Derived.Test.YtndpogefcpinfaaXk0
import Derived.Test.YtndpogefcpinfaaXk3
import Derived.Test.YtndpogefcpinfaaXk4
import Derived.Test.YtndpogefcpinfaaXk5
import Derived.Test.YtndpogefcpinfaaXkHclone
import Derived.OneCell
import Derived.Laws.EntriesVeiled
import Derived.Lib.SliceRun
import Derived.Shelf.Abstract
import Derived.Outline
import Derived.Deep.RegionHeld3
import Derived.BigQuiet
import Derived.Deep.QuietTactic
import Derived.RegionTactic
import Derived.BigRegion
namespace Go.Proofs.Ytndpogefcpinfaa.Xk
open Go.RowKit Go.Proofs.YtndpogefcpinfaaW.PrintWords Go.Proofs.YtndpogefcpinfaaW.PrintLast Go.Proofs.YtndpogefcpinfaaW.PrintMore
attribute [local go_sem] max2_int min2_int max_two min_two max_three min_three max_four min_four
set_option linter.unusedVariables false
set_option linter.unusedSimpArgs false
theorem st_cell {w : World} {b e : Nat} {v : Value} (h : w.heap[b]? = some (.cells #[v] e (0, 0))) : w.cell? ⟨b, 0, none⟩ = some v := by simp [World.cell?, h]
def tryL (M : List Int → Int → Option Bool) (G : List Int → Option Bool) (d : List Int) : List Int → Option Bool
  | [] => some false
  | x :: t => (M d x).bind fun b => if b = true then (G (d ++ [x])).bind fun r => if r = true then some true else tryL M G d t else tryL M G d t
/-- Whether a sharing goes on from d. -/
def canF (M : List Int → Int → Option Bool) (n st : Nat) : Nat → List Int → Option Bool
  | 0, _ => none
  | m + 1, d => if d.length = n then some true else tryL M (canF M n st m) d ((List.range st).map fun i : Nat => (i : Int))
/-- The worlds in which the cells are as firstSharing and sharings have laid them. -/
structure ShI (w0 : World) (A : Option Addr) (c : Nat) (l : List Int) (st : Nat) (f : Bool) (W : World) : Prop where
  b0 : Below w0.heap.size w0 W
  co : ∃ v : Value, W.heap[w0.heap.size]? = some (.cells #[v] 38 (0, 0))
  cf : W.heap[w0.heap.size + 1]? = some (.cells #[.bool f] 4 (0, 0))
  c1 : W.heap[w0.heap.size + 2]? = some (.cells #[.slice A l.length c] 38 (0, 0))
  c2 : W.heap[w0.heap.size + 3]? = some (.cells #[.int .i64 (st : Int)] 3 (0, 0))
  c3 : W.heap[w0.heap.size + 4]? = some (.cells #[.func (.func 79) #[] #[.pointer (some ⟨w0.heap.size, 0, none⟩), .pointer (some ⟨w0.heap.size + 1, 0, none⟩)]] 46 (0, 0))
  c4 : W.heap[w0.heap.size + 5]? = some (.cells #[.func (.func 91) #[] #[.pointer (some ⟨w0.heap.size + 2, 0, none⟩), .pointer (some ⟨w0.heap.size + 4, 0, none⟩), .pointer (some ⟨w0.heap.size + 3, 0, none⟩), .pointer (some ⟨w0.heap.size + 5, 0, none⟩)]] 46 (0, 0))
def Same (w0 W W2 : World) : Prop := W.heap.size ≤ W2.heap.size ∧ ∀ k, w0.heap.size + 2 ≤ k → k < W.heap.size → W2.heap[k]? = W.heap[k]?
section
variable {w0 W W2 W3 : World} {A : Option Addr} {c st : Nat} {l : List Int} {f : Bool}
theorem ShI.below (h : ShI w0 A c l st f W) (hb : Below W.heap.size W W2) : ShI w0 A c l st f W2 :=
  ⟨below_step h.b0 hb, ⟨h.co.choose, (hb.block _ (lt_of_block h.co.choose_spec)).trans h.co.choose_spec⟩, (hb.block _ (lt_of_block h.cf)).trans h.cf, (hb.block _ (lt_of_block h.c1)).trans h.c1, (hb.block _ (lt_of_block h.c2)).trans h.c2, (hb.block _ (lt_of_block h.c3)).trans h.c3, (hb.block _ (lt_of_block h.c4)).trans h.c4⟩
theorem Same.refl (w0 W : World) : Same w0 W W := ⟨Nat.le_refl _, fun _ _ _ => rfl⟩
theorem Same.trans (h : Same w0 W W2) (k : Same w0 W2 W3) : Same w0 W W3 := ⟨Nat.le_trans h.1 k.1, fun i h1 h2 => (k.2 i h1 (Nat.lt_of_lt_of_le h2 h.1)).trans (h.2 i h1 h2)⟩
theorem Same.of_below (h : Below W.heap.size W W2) : Same w0 W W2 := ⟨h.size, fun i _ h2 => h.block i h2⟩
theorem Same.row {base : Nat} {v : Value} {d : List Int} (h : Same w0 W W2) (hr : Kd.R (Kd.int .i64) 3 W base (fun _ => True) v d) (hb : w0.heap.size + 2 ≤ base) : Kd.R (Kd.int .i64) 3 W2 base (fun _ => True) v d :=
  Kd.R_mono (Kd.R_move (Kd.R_bound hr) (fun k hk => h.2 k (by have := hk.2.1; omega) hk.2.2.1)) (fun _ _ => trivial)
end
set_option maxHeartbeats 4000000 in
set_option maxRecDepth 100000 in
theorem first1_calls (w0 : World) (A : Option Addr) (c : Nat) (l : List Int) (st : Nat) (f : Bool) (W : World) (h : ShI w0 A c l st f W) (Ad : Option Addr) (n cd : Nat) :
    Calls Try.prog 79 #[.slice Ad n cd, .pointer (some ⟨w0.heap.size, 0, none⟩), .pointer (some ⟨w0.heap.size + 1, 0, none⟩)] W fun e w' => e = .returned (.bool true) ∧ ShI w0 A c l st true w' ∧ Same w0 W w' := by
  obtain ⟨vo, ho⟩ := h.co
  have x0 := st_cell ho
  have x1 := st_cell h.cf
  have f0 := blk_frozen ho 0
  have f1 := blk_frozen h.cf 0
  have HI := Aside0.mk h
  have HO := Aside0.mk ho
  clear h ho
  go_enter Try.func79, Try.ntmps79
  go_wp2
  go_ret
  have g0 := blk_put HO.out 0 (.slice Ad n cd) rfl
  have g0' := blk_far (p := ⟨w0.heap.size + 1, 0, none⟩) g0 (show w0.heap.size ≠ w0.heap.size + 1 by omega) (.bool true)
  have far : ∀ (j : Nat) (o : Obj), w0.heap.size + 2 ≤ j → W.heap[j]? = some o → ((W.setCell ⟨w0.heap.size, 0, none⟩ (.slice Ad n cd)).setCell ⟨w0.heap.size + 1, 0, none⟩ (.bool true)).heap[j]? = some o := fun j o hj hh => (Below.heap_setCell _ ⟨w0.heap.size + 1, 0, none⟩ _ j (by show j ≠ w0.heap.size + 1; omega)).trans ((Below.heap_setCell _ ⟨w0.heap.size, 0, none⟩ _ j (by show j ≠ w0.heap.size; omega)).trans hh)
  have h2 := blk_put (blk_far (p := ⟨w0.heap.size, 0, none⟩) HI.out.cf (show w0.heap.size + 1 ≠ w0.heap.size by omega) (.slice Ad n cd)) 0 (.bool true) rfl
  refine ⟨rfl, ⟨below_set (below_set HI.out.b0 (Nat.le_refl _)) (by omega), ⟨_, g0'⟩, h2, far _ _ (by omega) HI.out.c1, far _ _ (by omega) HI.out.c2, far _ _ (by omega) HI.out.c3, far _ _ (by omega) HI.out.c4⟩, ?_, ?_⟩
  · simp [World.setCell]
  · intro k h1 h2
    exact (Below.heap_setCell _ ⟨w0.heap.size + 1, 0, none⟩ _ k (by show k ≠ w0.heap.size + 1; omega)).trans (Below.heap_setCell _ ⟨w0.heap.size, 0, none⟩ _ k (by show k ≠ w0.heap.size; omega))
section
variable {ops : Array Oper} {rest : List Oper} {o : Oper} {a : Act} {Q : Exit → Act → World → Prop} {Kc : Act → World → Prop}
/-- A number behind a row of one's own, in a region that draws. -/
theorem app1_step {W : World} (hw : Region.wanted o (yielded ops a.tmps) = true) (s x : Operand) (ho : o.op = .call { callee := .builtin .append, args := #[s, x], argTypes := #[38, 38] }) (base : Nat) (v : Value) (d : List Int) (y : Int) (ad : Addr) (hs : a.eval s = v) (hx : a.eval x = .slice (some ad) 1 1)
    (hR : Kd.R (Kd.int .i64) 3 W base (fun _ => True) v d) (hcell : W.cell? (ad.add 0) = some (.int .i64 y)) (hl : d.length ≤ 1000) (hbase : base ≤ W.heap.size)
    (h : ∀ v1 w1, Kd.R (Kd.int .i64) 3 w1 base (fun _ => True) v1 (d ++ [y]) → W.grownBy w1 v.ownBlock → Below base W w1 → Kc (a.put o.dst v1) w1) : if Region.wanted o (yielded ops a.tmps) = true then Oper.wp Try.prog o a W Kc Q else Kc (a.put o.dst undef) W := by
  obtain ⟨i0, hi0, hz0, hsz0, hby0⟩ := info_parts info3
  obtain ⟨v', w', hrun, hown, hg, _⟩ := run_append_own (P := Try.prog) (w := W) base 38 o.type 3 i0 (.int .i64 0) 1 8 Try.underlying38 hi0 hz0 hsz0 hby0 rfl (by omega) v d.length (encs (Value.int .i64) d) (Kd.own_of_R hR) ad 1 1 [.int .i64 y] rfl (fun j u hj => by
    have hj0 : j = 0 := by
      rcases Nat.eq_zero_or_pos j with h_ | h_
      · exact h_
      · rw [List.getElem?_eq_none (by simp; omega)] at hj
        cases hj
    subst hj0
    have : u = .int .i64 y := by simpa using hj.symm
    rw [this]
    exact hcell) (fun u hu => by
    have : u = .int .i64 y := by simpa using hu
    rw [this]
    rfl) (by show d.length + 1 ≤ 9223372036854775807; omega) (by omega) hbase
  rw [if_pos hw]
  unfold Oper.wp execOp
  simp only [ho, resolve, invoke, builtin, Sem.run_bind, Sem.run_pure, Result.andThen_ok, List.map_toArray, List.map_cons, List.map_nil, hs, hx, hrun]
  refine h v' w' (Kd.R_of_own (by simpa [encs] using hown) (fun _ _ => trivial)) hg ((Below.refl _ _).grown hg hbase (fun k hk => Kd.R_base hR k hk))
end
theorem ShI.below6 {w0 W W2 : World} {A : Option Addr} {c st B : Nat} {l : List Int} {f : Bool} (h : ShI w0 A c l st f W) (hb : Below B W W2) (hB : w0.heap.size + 6 ≤ B) : ShI w0 A c l st f W2 :=
  ⟨⟨hb.os.trans h.b0.os, hb.tape.trans h.b0.tape, hb.output.trans h.b0.output, Nat.le_trans h.b0.size hb.size, fun k hk => (hb.block k (by omega)).trans (h.b0.block k hk)⟩, ⟨h.co.choose, (hb.block _ (by omega)).trans h.co.choose_spec⟩, (hb.block _ (by omega)).trans h.cf, (hb.block _ (by omega)).trans h.c1, (hb.block _ (by omega)).trans h.c2, (hb.block _ (by omega)).trans h.c3, (hb.block _ (by omega)).trans h.c4⟩
theorem Same.below6 {w0 W W2 W3 : World} {B : Nat} (h : Same w0 W W2) (hb : Below B W2 W3) (hB : W.heap.size ≤ B) : Same w0 W W3 := ⟨Nat.le_trans h.1 hb.size, fun k h1 h2 => (hb.block k (by omega)).trans (h.2 k h1 h2)⟩
set_option maxHeartbeats 16000000 in
set_option maxRecDepth 100000 in
theorem add_calls (k : Nat) (w0 : World) (A : Option Addr) (c : Nat) (l : List Int) (st : Nat) (hst : st ≤ 1000) (hC0 : Kd.C (Kd.int .i64) w0 A l.length l) (hlc : l.length ≤ c) :
    ∀ (m : Nat) (d : List Int) (r : Bool) (W : World) (base : Nat) (Ad : Option Addr) (cd : Nat), ShI w0 A c l st false W → Kd.R (Kd.int .i64) 3 W base (fun _ => True) (.slice Ad d.length cd) d → w0.heap.size + 6 ≤ base → base ≤ W.heap.size → canF (fun d_ x_ => impl_mayBe.f k l d_ (d_.length : Int) x_) l.length st m d = some r → d.length + m ≤ 900 →
    Calls Try.prog 91 #[.slice Ad d.length cd, .pointer (some ⟨w0.heap.size + 2, 0, none⟩), .pointer (some ⟨w0.heap.size + 4, 0, none⟩), .pointer (some ⟨w0.heap.size + 3, 0, none⟩), .pointer (some ⟨w0.heap.size + 5, 0, none⟩)] W fun e w' => e = .returned (.bool r) ∧ ShI w0 A c l st r w' ∧ Same w0 W w' := by
  have eg79 : ∀ args w, (callFunc 79 args).run Try.prog w = .ok (.enter 79 args) w := enters_of Try.func79 (by kernel_rfl) rfl
  have eg91 : ∀ args w, (callFunc 91 args).run Try.prog w = .ok (.enter 91 args) w := enters_of Try.func91 (by kernel_rfl) rfl
  have HC0 := Aside0.mk hC0
  have HLC := Aside0.mk hlc
  have HST := Aside0.mk hst
  clear hC0 hlc hst
  intro m
  induction m with
  | zero =>
    intro d r W base Ad cd _ _ _ _ h
    cases h
  | succ m IH =>
    intro d r W base Ad cd hI hR hb1 hb2 h hdm
    have HI := Aside0.mk hI
    have HR := Aside0.mk hR
    have HB1 := Aside0.mk hb1
    have HB2 := Aside0.mk hb2
    have HBD := Aside0.mk hdm
    have q1 := st_cell hI.c1
    have q2 := st_cell hI.c3
    have q3 := st_cell hI.c2
    simp only [canF] at h
    by_cases hn : d.length = l.length
    · rw [if_pos hn] at h
      obtain rfl := Option.some.inj h
      have heq : ((d.length : Int) == (l.length : Int)) = true := by rw [hn]; simp
      clear hI hR hb1 hb2 h hdm hn
      go_enter Try.func91, Try.ntmps91
      go_wp2_with (go_at_fn 79; (refine (first1_calls w0 A c l st false _ HI.out Ad d.length cd).mono ?_); rintro e w2 ⟨rfl, hI2, hS2⟩; have HI2 := Aside0.mk hI2; have HS2 := Aside0.mk hS2; clear hI2 hS2)
      go_ret
      exact ⟨rfl, HI2.out, HS2.out⟩
    · rw [if_neg hn] at h
      have heq : ((d.length : Int) == (l.length : Int)) = false := beq_eq_false_iff_ne.2 (by omega)
      have H := Aside0.mk h
      clear hI hR hb1 hb2 h hdm hn
      go_enter Try.func91, Try.ntmps91
      go_wp2
      go_loopg [17] st (fun kq v17 wr => ∃ (x : Nat), v17 = .int .i64 (x : Int) ∧ Aside0 (x + kq = st) ∧ Aside0 (tryL (fun d_ x_ => impl_mayBe.f k l d_ (d_.length : Int) x_) (canF (fun d_ x_ => impl_mayBe.f k l d_ (d_.length : Int) x_) l.length st m) d (((List.range st).map fun i : Nat => (i : Int)).drop x) = some r) ∧ Aside0 (ShI w0 A c l st false wr) ∧ Aside0 (Same w0 W wr))
      case atStart => exact ⟨0, rfl, ⟨by omega⟩, H, HI, ⟨Same.refl _ _⟩⟩
      case round =>
        clear q1 q2 q3 H heq
        obtain ⟨x, rfl, HK, HL, HIR, HSW⟩ := hrel
        by_cases hx : x < st
        · obtain ⟨k1, hk1⟩ : ∃ k1, gk = k1 + 1 := ⟨gk - 1, by have := HK.out; omega⟩
          subst hk1
          have d1 : decide (x < st) = true := decide_eq_true hx
          have hl := HL.out
          rw [List.drop_eq_getElem_cons (by simp; omega)] at hl
          simp only [List.getElem_map, List.getElem_range, tryL] at hl
          obtain ⟨b, hb, hl⟩ := Option.bind_eq_some_iff.1 hl
          have HMB := Aside0.mk hb
          have HRD := Aside0.mk (HSW.out.row HR.out (by have := HB1.out; omega))
          have HDC := Aside0.mk (Kd.R_reads' HRD.out).2.2
          have HLD := Aside0.mk (Kd.R_reads' HRD.out).2.1
          have hIa : ShI w0 A c l st false wr.drew := HIR.out.below (below_drew (Below.refl _ _))
          have E1 := Aside0.mk (show wrap64 ((x : Int) + 1) = ((x + 1 : Nat) : Int) by have := HST.out; unfold wrap64; omega)
          have HBR := Aside0.mk (show w0.heap.size + 6 ≤ wr.heap.size from Nat.le_trans (Nat.le_trans HB1.out HB2.out) HSW.out.1)
          clear hb
          cases b with
          | false =>
            have HL2 := Aside0.mk (show tryL (fun d_ x_ => impl_mayBe.f k l d_ (d_.length : Int) x_) (canF (fun d_ x_ => impl_mayBe.f k l d_ (d_.length : Int) x_) l.length st m) d (((List.range st).map fun i : Nat => (i : Int)).drop (x + 1)) = some r by simpa using hl)
            clear hl
            go_upto_region 6 with fail
            refine wp_region_held_drew (S := (fun W_ => (∃ f_ : Bool, ShI w0 A c l st f_ W_) ∧ Same w0 wr W_)) (by kernel_rfl) ⟨⟨_, hIa⟩, Same.of_below (below_drew (Below.refl _ _))⟩ (fun hHeld => ?_)
            refine wpAnyH_take (i := 0) (oi := ?oimA0) (v := (.slice A l.length c)) ?himA0 (by kernel_rfl) (by kernel_rfl) (by kernel_rfl) ?hQmA0 ?hymA0 hHeld ?hmA0
            case himA0 => (simp only [List.getElem?_toArray, List.getElem?_cons_succ, List.getElem?_cons_zero]; rfl)
            case hQmA0 => exact fun _ _ _ h => h
            case hymA0 => exact Or.inl ⟨by rfl, by intro w_ hSw; obtain ⟨⟨f_, hI_⟩, _⟩ := hSw; have h_ := st_cell hI_.c1; first | (go_simp; done) | (go_simp; with_reducible rfl)⟩
            try simp only [Act.put, List.setIfInBounds_toArray, List.set_cons_zero, List.set_cons_succ]
            refine wpAnyH_take (i := 1) (oi := ?oimA1) (v := ?vmA1) ?himA1 (by kernel_rfl) (by kernel_rfl) (by kernel_rfl) ?hQmA1 ?hymA1 hHeld ?hmA1
            case himA1 => (simp only [List.getElem?_toArray, List.getElem?_cons_succ, List.getElem?_cons_zero]; rfl)
            case hQmA1 => exact fun _ _ _ h => h
            case hymA1 => exact Or.inl ⟨by rfl, by intro w_ hSw; (try dsimp only at hSw); first | (go_simp; done) | (go_simp; with_reducible rfl)⟩
            try simp only [Act.put, List.setIfInBounds_toArray, List.set_cons_zero, List.set_cons_succ]
            refine wpAnyH_take (i := 2) (oi := ?oimA2) (v := ?vmA2) ?himA2 (by kernel_rfl) (by kernel_rfl) (by kernel_rfl) ?hQmA2 ?hymA2 hHeld ?hmA2
            case himA2 => (simp only [List.getElem?_toArray, List.getElem?_cons_succ, List.getElem?_cons_zero]; rfl)
            case hQmA2 => exact fun _ _ _ h => h
            case hymA2 => exact Or.inl ⟨by rfl, by intro w_ hSw; (try dsimp only at hSw); first | (go_simp; done) | (go_simp; with_reducible rfl)⟩
            try simp only [Act.put, List.setIfInBounds_toArray, List.set_cons_zero, List.set_cons_succ]
            refine wpAnyH_take (i := 3) (oi := ?oimA3) (v := ?vmA3) ?himA3 (by kernel_rfl) (by kernel_rfl) (by kernel_rfl) ?hQmA3 ?hymA3 hHeld ?hmA3
            case himA3 => (simp only [List.getElem?_toArray, List.getElem?_cons_succ, List.getElem?_cons_zero]; rfl)
            case hQmA3 => exact fun _ _ _ h => h
            case hymA3 => exact Or.inl ⟨by rfl, by intro w_ hSw; (try dsimp only at hSw); first | (go_simp; done) | (go_simp; with_reducible rfl)⟩
            try simp only [Act.put, List.setIfInBounds_toArray, List.set_cons_zero, List.set_cons_succ]
            refine wpAnyH_take (i := 4) (oi := ?oimA4) (v := ?vmA4) ?himA4 (by kernel_rfl) (by kernel_rfl) (by kernel_rfl) ?hQmA4 ?hymA4 hHeld ?hmA4
            case himA4 => (simp only [List.getElem?_toArray, List.getElem?_cons_succ, List.getElem?_cons_zero]; rfl)
            case hQmA4 => exact fun _ _ _ h => h
            case hymA4 => exact Or.inl ⟨by rfl, by intro w_ hSw; (try dsimp only at hSw); first | (go_simp; done) | (go_simp; with_reducible rfl)⟩
            try simp only [Act.put, List.setIfInBounds_toArray, List.set_cons_zero, List.set_cons_succ]
            refine wpAnyH_ready (rs := [5]) (by kernel_rfl) (by simp) ?_
            refine AllReadyH.cons (o := ?ocmA5) ?hcmA5 (fun K hK => ?hkmA5) AllReadyH.nil
            case hcmA5 => (simp only [List.getElem?_toArray, List.getElem?_cons_succ, List.getElem?_cons_zero]; rfl)
            go_simp
            go_at_call 92
            refine (impl_mayBe.calls k A c l Ad cd d (d.length : Int) (x : Int) false _ (Kd.C_below HC0.out hIa.b0) HLC.out (Kd.C_below HDC.out (below_drew (Below.refl _ _))) HLD.out HMB.out).mono ?_
            rintro e w5 ⟨rfl, hb5⟩
            have hIb := hIa.below hb5
            have hSb : Same w0 wr w5 := Same.of_below (below_step (below_drew (Below.refl _ _)) hb5)
            try dsimp only
            refine hK.out _ _ ⟨⟨_, hIb⟩, hSb⟩ (fun hHeld => ?_)
            clear hK K
            try simp only [Act.put, List.setIfInBounds_toArray, List.set_cons_zero, List.set_cons_succ]
            refine wpAnyH_take (i := 6) (oi := ?oimA6) (v := ?vmA6) ?himA6 (by kernel_rfl) (by kernel_rfl) (by kernel_rfl) ?hQmA6 ?hymA6 hHeld ?hmA6
            case himA6 => (simp only [List.getElem?_toArray, List.getElem?_cons_succ, List.getElem?_cons_zero]; rfl)
            case hQmA6 => exact fun _ _ _ h => h
            case hymA6 => exact Or.inl ⟨by rfl, by intro w_ hSw; (try dsimp only at hSw); first | (go_simp; done) | (go_simp; with_reducible rfl)⟩
            try simp only [Act.put, List.setIfInBounds_toArray, List.set_cons_zero, List.set_cons_succ]
            refine wpAnyH_take (i := 7) (oi := ?oimA7) (v := undef) ?himA7 (by kernel_rfl) (by kernel_rfl) (by kernel_rfl) ?hQmA7 ?hymA7 hHeld ?hmA7
            case himA7 => (simp only [List.getElem?_toArray, List.getElem?_cons_succ, List.getElem?_cons_zero]; rfl)
            case hQmA7 => exact fun _ _ _ h => h
            case hymA7 => exact Or.inr ⟨by rfl, rfl⟩
            try simp only [Act.put, List.setIfInBounds_toArray, List.set_cons_zero, List.set_cons_succ]
            refine wpAnyH_take (i := 8) (oi := ?oimA8) (v := undef) ?himA8 (by kernel_rfl) (by kernel_rfl) (by kernel_rfl) ?hQmA8 ?hymA8 hHeld ?hmA8
            case himA8 => (simp only [List.getElem?_toArray, List.getElem?_cons_succ, List.getElem?_cons_zero]; rfl)
            case hQmA8 => exact fun _ _ _ h => h
            case hymA8 => exact Or.inr ⟨by rfl, rfl⟩
            try simp only [Act.put, List.setIfInBounds_toArray, List.set_cons_zero, List.set_cons_succ]
            refine wpAnyH_take (i := 9) (oi := ?oimA9) (v := undef) ?himA9 (by kernel_rfl) (by kernel_rfl) (by kernel_rfl) ?hQmA9 ?hymA9 hHeld ?hmA9
            case himA9 => (simp only [List.getElem?_toArray, List.getElem?_cons_succ, List.getElem?_cons_zero]; rfl)
            case hQmA9 => exact fun _ _ _ h => h
            case hymA9 => exact Or.inr ⟨by rfl, rfl⟩
            try simp only [Act.put, List.setIfInBounds_toArray, List.set_cons_zero, List.set_cons_succ]
            refine wpAnyH_take (i := 10) (oi := ?oimA10) (v := undef) ?himA10 (by kernel_rfl) (by kernel_rfl) (by kernel_rfl) ?hQmA10 ?hymA10 hHeld ?hmA10
            case himA10 => (simp only [List.getElem?_toArray, List.getElem?_cons_succ, List.getElem?_cons_zero]; rfl)
            case hQmA10 => exact fun _ _ _ h => h
            case hymA10 => exact Or.inr ⟨by rfl, rfl⟩
            try simp only [Act.put, List.setIfInBounds_toArray, List.set_cons_zero, List.set_cons_succ]
            refine wpAnyH_take (i := 11) (oi := ?oimA11) (v := undef) ?himA11 (by kernel_rfl) (by kernel_rfl) (by kernel_rfl) ?hQmA11 ?hymA11 hHeld ?hmA11
            case himA11 => (simp only [List.getElem?_toArray, List.getElem?_cons_succ, List.getElem?_cons_zero]; rfl)
            case hQmA11 => exact fun _ _ _ h => h
            case hymA11 => exact Or.inr ⟨by rfl, rfl⟩
            try simp only [Act.put, List.setIfInBounds_toArray, List.set_cons_zero, List.set_cons_succ]
            refine wpAnyH_take (i := 12) (oi := ?oimA12) (v := undef) ?himA12 (by kernel_rfl) (by kernel_rfl) (by kernel_rfl) ?hQmA12 ?hymA12 hHeld ?hmA12
            case himA12 => (simp only [List.getElem?_toArray, List.getElem?_cons_succ, List.getElem?_cons_zero]; rfl)
            case hQmA12 => exact fun _ _ _ h => h
            case hymA12 => exact Or.inr ⟨by rfl, rfl⟩
            try simp only [Act.put, List.setIfInBounds_toArray, List.set_cons_zero, List.set_cons_succ]
            refine wpAnyH_take (i := 13) (oi := ?oimA13) (v := undef) ?himA13 (by kernel_rfl) (by kernel_rfl) (by kernel_rfl) ?hQmA13 ?hymA13 hHeld ?hmA13
            case himA13 => (simp only [List.getElem?_toArray, List.getElem?_cons_succ, List.getElem?_cons_zero]; rfl)
            case hQmA13 => exact fun _ _ _ h => h
            case hymA13 => exact Or.inr ⟨by rfl, rfl⟩
            try simp only [Act.put, List.setIfInBounds_toArray, List.set_cons_zero, List.set_cons_succ]
            refine wpAnyH_take (i := 14) (oi := ?oimA14) (v := ?vmA14) ?himA14 (by kernel_rfl) (by kernel_rfl) (by kernel_rfl) ?hQmA14 ?hymA14 hHeld ?hmA14
            case himA14 => (simp only [List.getElem?_toArray, List.getElem?_cons_succ, List.getElem?_cons_zero]; rfl)
            case hQmA14 => exact fun _ _ _ h => h
            case hymA14 => exact Or.inl ⟨by rfl, by intro w_ hSw; (try dsimp only at hSw); first | (go_simp; done) | (go_simp; with_reducible rfl)⟩
            try simp only [Act.put, List.setIfInBounds_toArray, List.set_cons_zero, List.set_cons_succ]
            refine wpAnyH_done (by kernel_rfl) ?_ _
            go_wp2
            go_roundg k1
            case measure => omega
            case rel => exact ⟨x + 1, by first | rw [E1.out] | simp, ⟨by have := HK.out; omega⟩, HL2, ⟨hIb⟩, ⟨HSW.out.trans hSb⟩⟩
          | true =>
            rw [if_pos rfl] at hl
            obtain ⟨r1, hr1, hl⟩ := Option.bind_eq_some_iff.1 hl
            obtain ⟨dx, hdx⟩ : ∃ dx, dx = d ++ [(x : Int)] := ⟨_, rfl⟩
            rw [← hdx] at hr1
            have HDL := Aside0.mk (show dx.length = d.length + 1 by rw [hdx]; simp)
            have HDX := Aside0.mk hdx
            have HG := Aside0.mk hr1
            have HCL := Aside0.mk (show slices_Clone_int_int.f d = some d by unfold slices_Clone_int_int.f; rw [if_pos (by have := HBD.out; omega)])
            clear hr1 hdx
            cases r1 with
            | true =>
              obtain rfl : r = true := by simpa using hl.symm
              clear hl
              go_upto_region 6 with fail
              refine wp_region_held_drew (S := (fun W_ => (∃ f_ : Bool, ShI w0 A c l st f_ W_) ∧ Same w0 wr W_)) (by kernel_rfl) ⟨⟨_, hIa⟩, Same.of_below (below_drew (Below.refl _ _))⟩ (fun hHeld => ?_)
              refine wpAnyH_take (i := 0) (oi := ?oimB0) (v := (.slice A l.length c)) ?himB0 (by kernel_rfl) (by kernel_rfl) (by kernel_rfl) ?hQmB0 ?hymB0 hHeld ?hmB0
              case himB0 => (simp only [List.getElem?_toArray, List.getElem?_cons_succ, List.getElem?_cons_zero]; rfl)
              case hQmB0 => exact fun _ _ _ h => h
              case hymB0 => exact Or.inl ⟨by rfl, by intro w_ hSw; obtain ⟨⟨f_, hI_⟩, _⟩ := hSw; have h_ := st_cell hI_.c1; first | (go_simp; done) | (go_simp; with_reducible rfl)⟩
              try simp only [Act.put, List.setIfInBounds_toArray, List.set_cons_zero, List.set_cons_succ]
              refine wpAnyH_take (i := 1) (oi := ?oimB1) (v := ?vmB1) ?himB1 (by kernel_rfl) (by kernel_rfl) (by kernel_rfl) ?hQmB1 ?hymB1 hHeld ?hmB1
              case himB1 => (simp only [List.getElem?_toArray, List.getElem?_cons_succ, List.getElem?_cons_zero]; rfl)
              case hQmB1 => exact fun _ _ _ h => h
              case hymB1 => exact Or.inl ⟨by rfl, by intro w_ hSw; (try dsimp only at hSw); first | (go_simp; done) | (go_simp; with_reducible rfl)⟩
              try simp only [Act.put, List.setIfInBounds_toArray, List.set_cons_zero, List.set_cons_succ]
              refine wpAnyH_take (i := 2) (oi := ?oimB2) (v := ?vmB2) ?himB2 (by kernel_rfl) (by kernel_rfl) (by kernel_rfl) ?hQmB2 ?hymB2 hHeld ?hmB2
              case himB2 => (simp only [List.getElem?_toArray, List.getElem?_cons_succ, List.getElem?_cons_zero]; rfl)
              case hQmB2 => exact fun _ _ _ h => h
              case hymB2 => exact Or.inl ⟨by rfl, by intro w_ hSw; (try dsimp only at hSw); first | (go_simp; done) | (go_simp; with_reducible rfl)⟩
              try simp only [Act.put, List.setIfInBounds_toArray, List.set_cons_zero, List.set_cons_succ]
              refine wpAnyH_take (i := 3) (oi := ?oimB3) (v := ?vmB3) ?himB3 (by kernel_rfl) (by kernel_rfl) (by kernel_rfl) ?hQmB3 ?hymB3 hHeld ?hmB3
              case himB3 => (simp only [List.getElem?_toArray, List.getElem?_cons_succ, List.getElem?_cons_zero]; rfl)
              case hQmB3 => exact fun _ _ _ h => h
              case hymB3 => exact Or.inl ⟨by rfl, by intro w_ hSw; (try dsimp only at hSw); first | (go_simp; done) | (go_simp; with_reducible rfl)⟩
              try simp only [Act.put, List.setIfInBounds_toArray, List.set_cons_zero, List.set_cons_succ]
              refine wpAnyH_take (i := 4) (oi := ?oimB4) (v := ?vmB4) ?himB4 (by kernel_rfl) (by kernel_rfl) (by kernel_rfl) ?hQmB4 ?hymB4 hHeld ?hmB4
              case himB4 => (simp only [List.getElem?_toArray, List.getElem?_cons_succ, List.getElem?_cons_zero]; rfl)
              case hQmB4 => exact fun _ _ _ h => h
              case hymB4 => exact Or.inl ⟨by rfl, by intro w_ hSw; (try dsimp only at hSw); first | (go_simp; done) | (go_simp; with_reducible rfl)⟩
              try simp only [Act.put, List.setIfInBounds_toArray, List.set_cons_zero, List.set_cons_succ]
              refine wpAnyH_ready (rs := [5]) (by kernel_rfl) (by simp) ?_
              refine AllReadyH.cons (o := ?ocmB5) ?hcmB5 (fun K hK => ?hkmB5) AllReadyH.nil
              case hcmB5 => (simp only [List.getElem?_toArray, List.getElem?_cons_succ, List.getElem?_cons_zero]; rfl)
              go_simp
              go_at_call 92
              refine (impl_mayBe.calls k A c l Ad cd d (d.length : Int) (x : Int) true _ (Kd.C_below HC0.out hIa.b0) HLC.out (Kd.C_below HDC.out (below_drew (Below.refl _ _))) HLD.out HMB.out).mono ?_
              rintro e w5 ⟨rfl, hb5⟩
              have hIb := hIa.below hb5
              have hSb : Same w0 wr w5 := Same.of_below (below_step (below_drew (Below.refl _ _)) hb5)
              try dsimp only
              refine hK.out _ _ ⟨⟨_, hIb⟩, hSb⟩ (fun hHeld => ?_)
              clear hK K
              try simp only [Act.put, List.setIfInBounds_toArray, List.set_cons_zero, List.set_cons_succ]
              refine wpAnyH_take (i := 6) (oi := ?oimB6) (v := ?vmB6) ?himB6 (by kernel_rfl) (by kernel_rfl) (by kernel_rfl) ?hQmB6 ?hymB6 hHeld ?hmB6
              case himB6 => (simp only [List.getElem?_toArray, List.getElem?_cons_succ, List.getElem?_cons_zero]; rfl)
              case hQmB6 => exact fun _ _ _ h => h
              case hymB6 => exact Or.inl ⟨by rfl, by intro w_ hSw; (try dsimp only at hSw); first | (go_simp; done) | (go_simp; with_reducible rfl)⟩
              try simp only [Act.put, List.setIfInBounds_toArray, List.set_cons_zero, List.set_cons_succ]
              refine wpAnyH_take (i := 7) (oi := ?oimB7) (v := (.func (.func 91) #[] #[.pointer (some ⟨w0.heap.size + 2, 0, none⟩), .pointer (some ⟨w0.heap.size + 4, 0, none⟩), .pointer (some ⟨w0.heap.size + 3, 0, none⟩), .pointer (some ⟨w0.heap.size + 5, 0, none⟩)])) ?himB7 (by kernel_rfl) (by kernel_rfl) (by kernel_rfl) ?hQmB7 ?hymB7 hHeld ?hmB7
              case himB7 => (simp only [List.getElem?_toArray, List.getElem?_cons_succ, List.getElem?_cons_zero]; rfl)
              case hQmB7 => exact fun _ _ _ h => h
              case hymB7 => exact Or.inl ⟨by rfl, by intro w_ hSw; obtain ⟨⟨f_, hI_⟩, _⟩ := hSw; have h_ := st_cell hI_.c4; first | (go_simp; done) | (go_simp; with_reducible rfl)⟩
              try simp only [Act.put, List.setIfInBounds_toArray, List.set_cons_zero, List.set_cons_succ]
              refine wpAnyH_take (i := 8) (oi := ?oimB8) (v := ?vmB8) ?himB8 (by kernel_rfl) (by kernel_rfl) (by kernel_rfl) ?hQmB8 ?hymB8 hHeld ?hmB8
              case himB8 => (simp only [List.getElem?_toArray, List.getElem?_cons_succ, List.getElem?_cons_zero]; rfl)
              case hQmB8 => exact fun _ _ _ h => h
              case hymB8 => exact Or.inl ⟨by rfl, by intro w_ hSw; (try dsimp only at hSw); first | (go_simp; done) | (go_simp; with_reducible rfl)⟩
              try simp only [Act.put, List.setIfInBounds_toArray, List.set_cons_zero, List.set_cons_succ]
              refine wpAnyH_take (i := 10) (oi := ?oimB10) (v := ?vmB10) ?himB10 (by kernel_rfl) (by kernel_rfl) (by kernel_rfl) ?hQmB10 ?hymB10 hHeld ?hmB10
              case himB10 => (simp only [List.getElem?_toArray, List.getElem?_cons_succ, List.getElem?_cons_zero]; rfl)
              case hQmB10 => exact fun _ _ _ h => h
              case hymB10 => exact Or.inl ⟨by rfl, by intro w_ hSw; (try dsimp only at hSw); first | (go_simp; done) | (go_simp; with_reducible rfl)⟩
              try simp only [Act.put, List.setIfInBounds_toArray, List.set_cons_zero, List.set_cons_succ]
              have hRd5 : Kd.R (Kd.int .i64) 3 w5 base (fun _ => True) (.slice Ad d.length cd) d := Kd.R_below (Kd.R_drew HRD.out) hb5
              refine wpAnyH_ready (rs := [9, 11]) (by kernel_rfl) (by simp) ?_
              refine AllReadyH.cons (o := ?ocmBX9) ?hcmBX9 (fun K hK => ?hkmBX9) ?hmmBX
              case hcmBX9 => (simp only [List.getElem?_toArray, List.getElem?_cons_succ, List.getElem?_cons_zero]; rfl)
              case hkmBX9 =>
                go_simp
                go_at_call 81
                refine (slices_Clone_int_int.calls Ad cd d d _ (Kd.R_reads' hRd5).2.2 HLD.out HCL.out).mono ?_
                rintro e w6 ⟨v6, rfl, ho6, hb6⟩
                have hIc := hIb.below hb6
                have hSc : Same w0 wr w6 := hSb.trans (Same.of_below hb6)
                try dsimp only
                refine hK.out _ _ ⟨⟨_, hIc⟩, hSc⟩ (fun hHeld => ?_)
                clear hK K
                try simp only [Act.put, List.setIfInBounds_toArray, List.set_cons_zero, List.set_cons_succ]
                refine wpAnyH_ready (rs := [11]) (by kernel_rfl) (by simp) ?_
                refine AllReadyH.cons (o := ?ocmBX11) ?hcmBX11 (fun K hK => ?hkmBX11) AllReadyH.nil
                case hcmBX11 => (simp only [List.getElem?_toArray, List.getElem?_cons_succ, List.getElem?_cons_zero]; rfl)
                go_simp
                have hbl : Below w6.heap.size w6 (w6.alloc (.cells #[.int .i64 (x : Int)] 3)) := below_alloc (Below.refl _ _) _
                have hId := hIc.below hbl
                have hSd : Same w0 wr (w6.alloc (.cells #[.int .i64 (x : Int)] 3)) := hSc.trans (Same.of_below hbl)
                refine hK.out _ _ ⟨⟨_, hId⟩, hSd⟩ (fun hHeld => ?_)
                clear hK K
                try simp only [Act.put, List.setIfInBounds_toArray, List.set_cons_zero, List.set_cons_succ]
                have hcell : (w6.alloc (.cells #[.int .i64 (x : Int)] 3)).cell? ((⟨w6.heap.size, 0, none⟩ : Addr).add 0) = some (.int .i64 (x : Int)) := by rw [show ((⟨w6.heap.size, 0, none⟩ : Addr).add 0) = ⟨w6.heap.size, 0, none⟩ from rfl]; exact st_cell (blk_new w6 _)
                have hR6 := Kd.R_below ho6 hbl
                have hbs : wr.heap.size ≤ w5.heap.size ∧ w0.heap.size + 6 ≤ w5.heap.size := by
                  have h1_ := hb5.size
                  have h2_ := HBR.out
                  have h3_ : wr.drew.heap.size = wr.heap.size := rfl
                  constructor <;> (try rw [World.size_alloc]) <;> omega
                refine wpAnyH_ready (rs := [12]) (by kernel_rfl) (by simp) ?_
                refine AllReadyH.cons (o := ?ocmBX12) ?hcmBX12 (fun K hK => ?hkmBX12) AllReadyH.nil
                case hcmBX12 => (simp only [List.getElem?_toArray, List.getElem?_cons_succ, List.getElem?_cons_zero]; rfl)
                refine app1_step (by rfl) (.tmp 29) (.tmp 31) (by rfl) (w5.heap.size) v6 d (x : Int) ⟨w6.heap.size, 0, none⟩ rfl rfl hR6 hcell (by have := HBD.out; omega) (by first | exact hb6.size | (rw [World.size_alloc]; have := hb6.size; omega)) ?_
                intro v7 w7 ho7 hg7 hb7
                rw [← HDX.out] at ho7
                obtain ⟨A7, c7, e7⟩ := Kd.R_slice ho7
                subst e7
                have hIf := hId.below6 hb7 hbs.2
                have hSf := hSd.below6 hb7 hbs.1
                refine hK.out _ _ ⟨⟨_, hIf⟩, hSf⟩ (fun hHeld => ?_)
                clear hK K
                try simp only [Act.put, List.setIfInBounds_toArray, List.set_cons_zero, List.set_cons_succ]
                refine wpAnyH_ready (rs := [13]) (by kernel_rfl) (by simp) ?_
                refine AllReadyH.cons (o := ?ocmBX13) ?hcmBX13 (fun K hK => ?hkmBX13) AllReadyH.nil
                case hcmBX13 => (simp only [List.getElem?_toArray, List.getElem?_cons_succ, List.getElem?_cons_zero]; rfl)
                go_simp
                go_at_fn 91
                refine (IH dx true w7 (w5.heap.size) A7 c7 hIf ho7 hbs.2 (Nat.le_trans (by first | exact hb6.size | (rw [World.size_alloc]; have := hb6.size; omega)) hb7.size) HG.out (by have := HBD.out; have := HDL.out; omega)).mono ?_
                rintro e w8 ⟨rfl, hIg, hs8⟩
                have hSg := hSf.trans hs8
                try dsimp only
                refine hK.out _ _ ⟨⟨_, hIg⟩, hSg⟩ (fun hHeld => ?_)
                clear hK K
                try simp only [Act.put, List.setIfInBounds_toArray, List.set_cons_zero, List.set_cons_succ]
                refine wpAnyH_take (i := 14) (oi := ?oimBX14) (v := ?vmBX14) ?himBX14 (by kernel_rfl) (by kernel_rfl) (by kernel_rfl) ?hQmBX14 ?hymBX14 hHeld ?hmBX14
                case himBX14 => (simp only [List.getElem?_toArray, List.getElem?_cons_succ, List.getElem?_cons_zero]; rfl)
                case hQmBX14 => exact fun _ _ _ h => h
                case hymBX14 => exact Or.inl ⟨by rfl, by intro w_ hSw; (try dsimp only at hSw); first | (go_simp; done) | (go_simp; with_reducible rfl)⟩
                try simp only [Act.put, List.setIfInBounds_toArray, List.set_cons_zero, List.set_cons_succ]
                refine wpAnyH_done (by kernel_rfl) ?_ _
                go_wp2
                go_ret
                exact ⟨rfl, hIg, HSW.out.trans hSg⟩
              case hmmBX =>
                refine AllReadyH.cons (o := ?ocmBY11) ?hcmBY11 (fun K hK => ?hkmBY11) AllReadyH.nil
                case hcmBY11 => (simp only [List.getElem?_toArray, List.getElem?_cons_succ, List.getElem?_cons_zero]; rfl)
                go_simp
                have hbl : Below w5.heap.size w5 (w5.alloc (.cells #[.int .i64 (x : Int)] 3)) := below_alloc (Below.refl _ _) _
                have hIc := hIb.below hbl
                have hSc : Same w0 wr (w5.alloc (.cells #[.int .i64 (x : Int)] 3)) := hSb.trans (Same.of_below hbl)
                refine hK.out _ _ ⟨⟨_, hIc⟩, hSc⟩ (fun hHeld => ?_)
                clear hK K
                try simp only [Act.put, List.setIfInBounds_toArray, List.set_cons_zero, List.set_cons_succ]
                refine wpAnyH_ready (rs := [9]) (by kernel_rfl) (by simp) ?_
                refine AllReadyH.cons (o := ?ocmBY9) ?hcmBY9 (fun K hK => ?hkmBY9) AllReadyH.nil
                case hcmBY9 => (simp only [List.getElem?_toArray, List.getElem?_cons_succ, List.getElem?_cons_zero]; rfl)
                go_simp
                go_at_call 81
                refine (slices_Clone_int_int.calls Ad cd d d _ (Kd.R_reads' (Kd.R_below hRd5 hbl)).2.2 HLD.out HCL.out).mono ?_
                rintro e w6 ⟨v6, rfl, ho6, hb6⟩
                have hId := hIc.below hb6
                have hSd : Same w0 wr w6 := hSc.trans (Same.of_below hb6)
                try dsimp only
                refine hK.out _ _ ⟨⟨_, hId⟩, hSd⟩ (fun hHeld => ?_)
                clear hK K
                try simp only [Act.put, List.setIfInBounds_toArray, List.set_cons_zero, List.set_cons_succ]
                have hcell : w6.cell? ((⟨w5.heap.size, 0, none⟩ : Addr).add 0) = some (.int .i64 (x : Int)) := by rw [show ((⟨w5.heap.size, 0, none⟩ : Addr).add 0) = ⟨w5.heap.size, 0, none⟩ from rfl]; exact st_cell ((hb6.block _ (by rw [World.size_alloc]; omega)).trans (blk_new w5 _))
                have hR6 := ho6
                have hbs : wr.heap.size ≤ (w5.alloc (.cells #[.int .i64 (x : Int)] 3)).heap.size ∧ w0.heap.size + 6 ≤ (w5.alloc (.cells #[.int .i64 (x : Int)] 3)).heap.size := by
                  have h1_ := hb5.size
                  have h2_ := HBR.out
                  have h3_ : wr.drew.heap.size = wr.heap.size := rfl
                  constructor <;> (try rw [World.size_alloc]) <;> omega
                refine wpAnyH_ready (rs := [12]) (by kernel_rfl) (by simp) ?_
                refine AllReadyH.cons (o := ?ocmBY12) ?hcmBY12 (fun K hK => ?hkmBY12) AllReadyH.nil
                case hcmBY12 => (simp only [List.getElem?_toArray, List.getElem?_cons_succ, List.getElem?_cons_zero]; rfl)
                refine app1_step (by rfl) (.tmp 29) (.tmp 31) (by rfl) ((w5.alloc (.cells #[.int .i64 (x : Int)] 3)).heap.size) v6 d (x : Int) ⟨w5.heap.size, 0, none⟩ rfl rfl hR6 hcell (by have := HBD.out; omega) (by first | exact hb6.size | (rw [World.size_alloc]; have := hb6.size; omega)) ?_
                intro v7 w7 ho7 hg7 hb7
                rw [← HDX.out] at ho7
                obtain ⟨A7, c7, e7⟩ := Kd.R_slice ho7
                subst e7
                have hIf := hId.below6 hb7 hbs.2
                have hSf := hSd.below6 hb7 hbs.1
                refine hK.out _ _ ⟨⟨_, hIf⟩, hSf⟩ (fun hHeld => ?_)
                clear hK K
                try simp only [Act.put, List.setIfInBounds_toArray, List.set_cons_zero, List.set_cons_succ]
                refine wpAnyH_ready (rs := [13]) (by kernel_rfl) (by simp) ?_
                refine AllReadyH.cons (o := ?ocmBY13) ?hcmBY13 (fun K hK => ?hkmBY13) AllReadyH.nil
                case hcmBY13 => (simp only [List.getElem?_toArray, List.getElem?_cons_succ, List.getElem?_cons_zero]; rfl)
                go_simp
                go_at_fn 91
                refine (IH dx true w7 ((w5.alloc (.cells #[.int .i64 (x : Int)] 3)).heap.size) A7 c7 hIf ho7 hbs.2 (Nat.le_trans (by first | exact hb6.size | (rw [World.size_alloc]; have := hb6.size; omega)) hb7.size) HG.out (by have := HBD.out; have := HDL.out; omega)).mono ?_
                rintro e w8 ⟨rfl, hIg, hs8⟩
                have hSg := hSf.trans hs8
                try dsimp only
                refine hK.out _ _ ⟨⟨_, hIg⟩, hSg⟩ (fun hHeld => ?_)
                clear hK K
                try simp only [Act.put, List.setIfInBounds_toArray, List.set_cons_zero, List.set_cons_succ]
                refine wpAnyH_take (i := 14) (oi := ?oimBY14) (v := ?vmBY14) ?himBY14 (by kernel_rfl) (by kernel_rfl) (by kernel_rfl) ?hQmBY14 ?hymBY14 hHeld ?hmBY14
                case himBY14 => (simp only [List.getElem?_toArray, List.getElem?_cons_succ, List.getElem?_cons_zero]; rfl)
                case hQmBY14 => exact fun _ _ _ h => h
                case hymBY14 => exact Or.inl ⟨by rfl, by intro w_ hSw; (try dsimp only at hSw); first | (go_simp; done) | (go_simp; with_reducible rfl)⟩
                try simp only [Act.put, List.setIfInBounds_toArray, List.set_cons_zero, List.set_cons_succ]
                refine wpAnyH_done (by kernel_rfl) ?_ _
                go_wp2
                go_ret
                exact ⟨rfl, hIg, HSW.out.trans hSg⟩
            | false =>
              have HL2 := Aside0.mk (show tryL (fun d_ x_ => impl_mayBe.f k l d_ (d_.length : Int) x_) (canF (fun d_ x_ => impl_mayBe.f k l d_ (d_.length : Int) x_) l.length st m) d (((List.range st).map fun i : Nat => (i : Int)).drop (x + 1)) = some r by simpa using hl)
              clear hl
              go_upto_region 6 with fail
              refine wp_region_held_drew (S := (fun W_ => (∃ f_ : Bool, ShI w0 A c l st f_ W_) ∧ Same w0 wr W_)) (by kernel_rfl) ⟨⟨_, hIa⟩, Same.of_below (below_drew (Below.refl _ _))⟩ (fun hHeld => ?_)
              refine wpAnyH_take (i := 0) (oi := ?oimC0) (v := (.slice A l.length c)) ?himC0 (by kernel_rfl) (by kernel_rfl) (by kernel_rfl) ?hQmC0 ?hymC0 hHeld ?hmC0
              case himC0 => (simp only [List.getElem?_toArray, List.getElem?_cons_succ, List.getElem?_cons_zero]; rfl)
              case hQmC0 => exact fun _ _ _ h => h
              case hymC0 => exact Or.inl ⟨by rfl, by intro w_ hSw; obtain ⟨⟨f_, hI_⟩, _⟩ := hSw; have h_ := st_cell hI_.c1; first | (go_simp; done) | (go_simp; with_reducible rfl)⟩
              try simp only [Act.put, List.setIfInBounds_toArray, List.set_cons_zero, List.set_cons_succ]
              refine wpAnyH_take (i := 1) (oi := ?oimC1) (v := ?vmC1) ?himC1 (by kernel_rfl) (by kernel_rfl) (by kernel_rfl) ?hQmC1 ?hymC1 hHeld ?hmC1
              case himC1 => (simp only [List.getElem?_toArray, List.getElem?_cons_succ, List.getElem?_cons_zero]; rfl)
              case hQmC1 => exact fun _ _ _ h => h
              case hymC1 => exact Or.inl ⟨by rfl, by intro w_ hSw; (try dsimp only at hSw); first | (go_simp; done) | (go_simp; with_reducible rfl)⟩
              try simp only [Act.put, List.setIfInBounds_toArray, List.set_cons_zero, List.set_cons_succ]
              refine wpAnyH_take (i := 2) (oi := ?oimC2) (v := ?vmC2) ?himC2 (by kernel_rfl) (by kernel_rfl) (by kernel_rfl) ?hQmC2 ?hymC2 hHeld ?hmC2
              case himC2 => (simp only [List.getElem?_toArray, List.getElem?_cons_succ, List.getElem?_cons_zero]; rfl)
              case hQmC2 => exact fun _ _ _ h => h
              case hymC2 => exact Or.inl ⟨by rfl, by intro w_ hSw; (try dsimp only at hSw); first | (go_simp; done) | (go_simp; with_reducible rfl)⟩
              try simp only [Act.put, List.setIfInBounds_toArray, List.set_cons_zero, List.set_cons_succ]
              refine wpAnyH_take (i := 3) (oi := ?oimC3) (v := ?vmC3) ?himC3 (by kernel_rfl) (by kernel_rfl) (by kernel_rfl) ?hQmC3 ?hymC3 hHeld ?hmC3
              case himC3 => (simp only [List.getElem?_toArray, List.getElem?_cons_succ, List.getElem?_cons_zero]; rfl)
              case hQmC3 => exact fun _ _ _ h => h
              case hymC3 => exact Or.inl ⟨by rfl, by intro w_ hSw; (try dsimp only at hSw); first | (go_simp; done) | (go_simp; with_reducible rfl)⟩
              try simp only [Act.put, List.setIfInBounds_toArray, List.set_cons_zero, List.set_cons_succ]
              refine wpAnyH_take (i := 4) (oi := ?oimC4) (v := ?vmC4) ?himC4 (by kernel_rfl) (by kernel_rfl) (by kernel_rfl) ?hQmC4 ?hymC4 hHeld ?hmC4
              case himC4 => (simp only [List.getElem?_toArray, List.getElem?_cons_succ, List.getElem?_cons_zero]; rfl)
              case hQmC4 => exact fun _ _ _ h => h
              case hymC4 => exact Or.inl ⟨by rfl, by intro w_ hSw; (try dsimp only at hSw); first | (go_simp; done) | (go_simp; with_reducible rfl)⟩
              try simp only [Act.put, List.setIfInBounds_toArray, List.set_cons_zero, List.set_cons_succ]
              refine wpAnyH_ready (rs := [5]) (by kernel_rfl) (by simp) ?_
              refine AllReadyH.cons (o := ?ocmC5) ?hcmC5 (fun K hK => ?hkmC5) AllReadyH.nil
              case hcmC5 => (simp only [List.getElem?_toArray, List.getElem?_cons_succ, List.getElem?_cons_zero]; rfl)
              go_simp
              go_at_call 92
              refine (impl_mayBe.calls k A c l Ad cd d (d.length : Int) (x : Int) true _ (Kd.C_below HC0.out hIa.b0) HLC.out (Kd.C_below HDC.out (below_drew (Below.refl _ _))) HLD.out HMB.out).mono ?_
              rintro e w5 ⟨rfl, hb5⟩
              have hIb := hIa.below hb5
              have hSb : Same w0 wr w5 := Same.of_below (below_step (below_drew (Below.refl _ _)) hb5)
              try dsimp only
              refine hK.out _ _ ⟨⟨_, hIb⟩, hSb⟩ (fun hHeld => ?_)
              clear hK K
              try simp only [Act.put, List.setIfInBounds_toArray, List.set_cons_zero, List.set_cons_succ]
              refine wpAnyH_take (i := 6) (oi := ?oimC6) (v := ?vmC6) ?himC6 (by kernel_rfl) (by kernel_rfl) (by kernel_rfl) ?hQmC6 ?hymC6 hHeld ?hmC6
              case himC6 => (simp only [List.getElem?_toArray, List.getElem?_cons_succ, List.getElem?_cons_zero]; rfl)
              case hQmC6 => exact fun _ _ _ h => h
              case hymC6 => exact Or.inl ⟨by rfl, by intro w_ hSw; (try dsimp only at hSw); first | (go_simp; done) | (go_simp; with_reducible rfl)⟩
              try simp only [Act.put, List.setIfInBounds_toArray, List.set_cons_zero, List.set_cons_succ]
              refine wpAnyH_take (i := 7) (oi := ?oimC7) (v := (.func (.func 91) #[] #[.pointer (some ⟨w0.heap.size + 2, 0, none⟩), .pointer (some ⟨w0.heap.size + 4, 0, none⟩), .pointer (some ⟨w0.heap.size + 3, 0, none⟩), .pointer (some ⟨w0.heap.size + 5, 0, none⟩)])) ?himC7 (by kernel_rfl) (by kernel_rfl) (by kernel_rfl) ?hQmC7 ?hymC7 hHeld ?hmC7
              case himC7 => (simp only [List.getElem?_toArray, List.getElem?_cons_succ, List.getElem?_cons_zero]; rfl)
              case hQmC7 => exact fun _ _ _ h => h
              case hymC7 => exact Or.inl ⟨by rfl, by intro w_ hSw; obtain ⟨⟨f_, hI_⟩, _⟩ := hSw; have h_ := st_cell hI_.c4; first | (go_simp; done) | (go_simp; with_reducible rfl)⟩
              try simp only [Act.put, List.setIfInBounds_toArray, List.set_cons_zero, List.set_cons_succ]
              refine wpAnyH_take (i := 8) (oi := ?oimC8) (v := ?vmC8) ?himC8 (by kernel_rfl) (by kernel_rfl) (by kernel_rfl) ?hQmC8 ?hymC8 hHeld ?hmC8
              case himC8 => (simp only [List.getElem?_toArray, List.getElem?_cons_succ, List.getElem?_cons_zero]; rfl)
              case hQmC8 => exact fun _ _ _ h => h
              case hymC8 => exact Or.inl ⟨by rfl, by intro w_ hSw; (try dsimp only at hSw); first | (go_simp; done) | (go_simp; with_reducible rfl)⟩
              try simp only [Act.put, List.setIfInBounds_toArray, List.set_cons_zero, List.set_cons_succ]
              refine wpAnyH_take (i := 10) (oi := ?oimC10) (v := ?vmC10) ?himC10 (by kernel_rfl) (by kernel_rfl) (by kernel_rfl) ?hQmC10 ?hymC10 hHeld ?hmC10
              case himC10 => (simp only [List.getElem?_toArray, List.getElem?_cons_succ, List.getElem?_cons_zero]; rfl)
              case hQmC10 => exact fun _ _ _ h => h
              case hymC10 => exact Or.inl ⟨by rfl, by intro w_ hSw; (try dsimp only at hSw); first | (go_simp; done) | (go_simp; with_reducible rfl)⟩
              try simp only [Act.put, List.setIfInBounds_toArray, List.set_cons_zero, List.set_cons_succ]
              have hRd5 : Kd.R (Kd.int .i64) 3 w5 base (fun _ => True) (.slice Ad d.length cd) d := Kd.R_below (Kd.R_drew HRD.out) hb5
              refine wpAnyH_ready (rs := [9, 11]) (by kernel_rfl) (by simp) ?_
              refine AllReadyH.cons (o := ?ocmCX9) ?hcmCX9 (fun K hK => ?hkmCX9) ?hmmCX
              case hcmCX9 => (simp only [List.getElem?_toArray, List.getElem?_cons_succ, List.getElem?_cons_zero]; rfl)
              case hkmCX9 =>
                go_simp
                go_at_call 81
                refine (slices_Clone_int_int.calls Ad cd d d _ (Kd.R_reads' hRd5).2.2 HLD.out HCL.out).mono ?_
                rintro e w6 ⟨v6, rfl, ho6, hb6⟩
                have hIc := hIb.below hb6
                have hSc : Same w0 wr w6 := hSb.trans (Same.of_below hb6)
                try dsimp only
                refine hK.out _ _ ⟨⟨_, hIc⟩, hSc⟩ (fun hHeld => ?_)
                clear hK K
                try simp only [Act.put, List.setIfInBounds_toArray, List.set_cons_zero, List.set_cons_succ]
                refine wpAnyH_ready (rs := [11]) (by kernel_rfl) (by simp) ?_
                refine AllReadyH.cons (o := ?ocmCX11) ?hcmCX11 (fun K hK => ?hkmCX11) AllReadyH.nil
                case hcmCX11 => (simp only [List.getElem?_toArray, List.getElem?_cons_succ, List.getElem?_cons_zero]; rfl)
                go_simp
                have hbl : Below w6.heap.size w6 (w6.alloc (.cells #[.int .i64 (x : Int)] 3)) := below_alloc (Below.refl _ _) _
                have hId := hIc.below hbl
                have hSd : Same w0 wr (w6.alloc (.cells #[.int .i64 (x : Int)] 3)) := hSc.trans (Same.of_below hbl)
                refine hK.out _ _ ⟨⟨_, hId⟩, hSd⟩ (fun hHeld => ?_)
                clear hK K
                try simp only [Act.put, List.setIfInBounds_toArray, List.set_cons_zero, List.set_cons_succ]
                have hcell : (w6.alloc (.cells #[.int .i64 (x : Int)] 3)).cell? ((⟨w6.heap.size, 0, none⟩ : Addr).add 0) = some (.int .i64 (x : Int)) := by rw [show ((⟨w6.heap.size, 0, none⟩ : Addr).add 0) = ⟨w6.heap.size, 0, none⟩ from rfl]; exact st_cell (blk_new w6 _)
                have hR6 := Kd.R_below ho6 hbl
                have hbs : wr.heap.size ≤ w5.heap.size ∧ w0.heap.size + 6 ≤ w5.heap.size := by
                  have h1_ := hb5.size
                  have h2_ := HBR.out
                  have h3_ : wr.drew.heap.size = wr.heap.size := rfl
                  constructor <;> (try rw [World.size_alloc]) <;> omega
                refine wpAnyH_ready (rs := [12]) (by kernel_rfl) (by simp) ?_
                refine AllReadyH.cons (o := ?ocmCX12) ?hcmCX12 (fun K hK => ?hkmCX12) AllReadyH.nil
                case hcmCX12 => (simp only [List.getElem?_toArray, List.getElem?_cons_succ, List.getElem?_cons_zero]; rfl)
                refine app1_step (by rfl) (.tmp 29) (.tmp 31) (by rfl) (w5.heap.size) v6 d (x : Int) ⟨w6.heap.size, 0, none⟩ rfl rfl hR6 hcell (by have := HBD.out; omega) (by first | exact hb6.size | (rw [World.size_alloc]; have := hb6.size; omega)) ?_
                intro v7 w7 ho7 hg7 hb7
                rw [← HDX.out] at ho7
                obtain ⟨A7, c7, e7⟩ := Kd.R_slice ho7
                subst e7
                have hIf := hId.below6 hb7 hbs.2
                have hSf := hSd.below6 hb7 hbs.1
                refine hK.out _ _ ⟨⟨_, hIf⟩, hSf⟩ (fun hHeld => ?_)
                clear hK K
                try simp only [Act.put, List.setIfInBounds_toArray, List.set_cons_zero, List.set_cons_succ]
                refine wpAnyH_ready (rs := [13]) (by kernel_rfl) (by simp) ?_
                refine AllReadyH.cons (o := ?ocmCX13) ?hcmCX13 (fun K hK => ?hkmCX13) AllReadyH.nil
                case hcmCX13 => (simp only [List.getElem?_toArray, List.getElem?_cons_succ, List.getElem?_cons_zero]; rfl)
                go_simp
                go_at_fn 91
                refine (IH dx false w7 (w5.heap.size) A7 c7 hIf ho7 hbs.2 (Nat.le_trans (by first | exact hb6.size | (rw [World.size_alloc]; have := hb6.size; omega)) hb7.size) HG.out (by have := HBD.out; have := HDL.out; omega)).mono ?_
                rintro e w8 ⟨rfl, hIg, hs8⟩
                have hSg := hSf.trans hs8
                try dsimp only
                refine hK.out _ _ ⟨⟨_, hIg⟩, hSg⟩ (fun hHeld => ?_)
                clear hK K
                try simp only [Act.put, List.setIfInBounds_toArray, List.set_cons_zero, List.set_cons_succ]
                refine wpAnyH_take (i := 14) (oi := ?oimCX14) (v := ?vmCX14) ?himCX14 (by kernel_rfl) (by kernel_rfl) (by kernel_rfl) ?hQmCX14 ?hymCX14 hHeld ?hmCX14
                case himCX14 => (simp only [List.getElem?_toArray, List.getElem?_cons_succ, List.getElem?_cons_zero]; rfl)
                case hQmCX14 => exact fun _ _ _ h => h
                case hymCX14 => exact Or.inl ⟨by rfl, by intro w_ hSw; (try dsimp only at hSw); first | (go_simp; done) | (go_simp; with_reducible rfl)⟩
                try simp only [Act.put, List.setIfInBounds_toArray, List.set_cons_zero, List.set_cons_succ]
                refine wpAnyH_done (by kernel_rfl) ?_ _
                go_wp2
                go_roundg k1
                case measure => omega
                case rel => exact ⟨x + 1, by first | rw [E1.out] | simp, ⟨by have := HK.out; omega⟩, HL2, ⟨hIg⟩, ⟨HSW.out.trans hSg⟩⟩
              case hmmCX =>
                refine AllReadyH.cons (o := ?ocmCY11) ?hcmCY11 (fun K hK => ?hkmCY11) AllReadyH.nil
                case hcmCY11 => (simp only [List.getElem?_toArray, List.getElem?_cons_succ, List.getElem?_cons_zero]; rfl)
                go_simp
                have hbl : Below w5.heap.size w5 (w5.alloc (.cells #[.int .i64 (x : Int)] 3)) := below_alloc (Below.refl _ _) _
                have hIc := hIb.below hbl
                have hSc : Same w0 wr (w5.alloc (.cells #[.int .i64 (x : Int)] 3)) := hSb.trans (Same.of_below hbl)
                refine hK.out _ _ ⟨⟨_, hIc⟩, hSc⟩ (fun hHeld => ?_)
                clear hK K
                try simp only [Act.put, List.setIfInBounds_toArray, List.set_cons_zero, List.set_cons_succ]
                refine wpAnyH_ready (rs := [9]) (by kernel_rfl) (by simp) ?_
                refine AllReadyH.cons (o := ?ocmCY9) ?hcmCY9 (fun K hK => ?hkmCY9) AllReadyH.nil
                case hcmCY9 => (simp only [List.getElem?_toArray, List.getElem?_cons_succ, List.getElem?_cons_zero]; rfl)
                go_simp
                go_at_call 81
                refine (slices_Clone_int_int.calls Ad cd d d _ (Kd.R_reads' (Kd.R_below hRd5 hbl)).2.2 HLD.out HCL.out).mono ?_
                rintro e w6 ⟨v6, rfl, ho6, hb6⟩
                have hId := hIc.below hb6
                have hSd : Same w0 wr w6 := hSc.trans (Same.of_below hb6)
                try dsimp only
                refine hK.out _ _ ⟨⟨_, hId⟩, hSd⟩ (fun hHeld => ?_)
                clear hK K
                try simp only [Act.put, List.setIfInBounds_toArray, List.set_cons_zero, List.set_cons_succ]
                have hcell : w6.cell? ((⟨w5.heap.size, 0, none⟩ : Addr).add 0) = some (.int .i64 (x : Int)) := by rw [show ((⟨w5.heap.size, 0, none⟩ : Addr).add 0) = ⟨w5.heap.size, 0, none⟩ from rfl]; exact st_cell ((hb6.block _ (by rw [World.size_alloc]; omega)).trans (blk_new w5 _))
                have hR6 := ho6
                have hbs : wr.heap.size ≤ (w5.alloc (.cells #[.int .i64 (x : Int)] 3)).heap.size ∧ w0.heap.size + 6 ≤ (w5.alloc (.cells #[.int .i64 (x : Int)] 3)).heap.size := by
                  have h1_ := hb5.size
                  have h2_ := HBR.out
                  have h3_ : wr.drew.heap.size = wr.heap.size := rfl
                  constructor <;> (try rw [World.size_alloc]) <;> omega
                refine wpAnyH_ready (rs := [12]) (by kernel_rfl) (by simp) ?_
                refine AllReadyH.cons (o := ?ocmCY12) ?hcmCY12 (fun K hK => ?hkmCY12) AllReadyH.nil
                case hcmCY12 => (simp only [List.getElem?_toArray, List.getElem?_cons_succ, List.getElem?_cons_zero]; rfl)
                refine app1_step (by rfl) (.tmp 29) (.tmp 31) (by rfl) ((w5.alloc (.cells #[.int .i64 (x : Int)] 3)).heap.size) v6 d (x : Int) ⟨w5.heap.size, 0, none⟩ rfl rfl hR6 hcell (by have := HBD.out; omega) (by first | exact hb6.size | (rw [World.size_alloc]; have := hb6.size; omega)) ?_
                intro v7 w7 ho7 hg7 hb7
                rw [← HDX.out] at ho7
                obtain ⟨A7, c7, e7⟩ := Kd.R_slice ho7
                subst e7
                have hIf := hId.below6 hb7 hbs.2
                have hSf := hSd.below6 hb7 hbs.1
                refine hK.out _ _ ⟨⟨_, hIf⟩, hSf⟩ (fun hHeld => ?_)
                clear hK K
                try simp only [Act.put, List.setIfInBounds_toArray, List.set_cons_zero, List.set_cons_succ]
                refine wpAnyH_ready (rs := [13]) (by kernel_rfl) (by simp) ?_
                refine AllReadyH.cons (o := ?ocmCY13) ?hcmCY13 (fun K hK => ?hkmCY13) AllReadyH.nil
                case hcmCY13 => (simp only [List.getElem?_toArray, List.getElem?_cons_succ, List.getElem?_cons_zero]; rfl)
                go_simp
                go_at_fn 91
                refine (IH dx false w7 ((w5.alloc (.cells #[.int .i64 (x : Int)] 3)).heap.size) A7 c7 hIf ho7 hbs.2 (Nat.le_trans (by first | exact hb6.size | (rw [World.size_alloc]; have := hb6.size; omega)) hb7.size) HG.out (by have := HBD.out; have := HDL.out; omega)).mono ?_
                rintro e w8 ⟨rfl, hIg, hs8⟩
                have hSg := hSf.trans hs8
                try dsimp only
                refine hK.out _ _ ⟨⟨_, hIg⟩, hSg⟩ (fun hHeld => ?_)
                clear hK K
                try simp only [Act.put, List.setIfInBounds_toArray, List.set_cons_zero, List.set_cons_succ]
                refine wpAnyH_take (i := 14) (oi := ?oimCY14) (v := ?vmCY14) ?himCY14 (by kernel_rfl) (by kernel_rfl) (by kernel_rfl) ?hQmCY14 ?hymCY14 hHeld ?hmCY14
                case himCY14 => (simp only [List.getElem?_toArray, List.getElem?_cons_succ, List.getElem?_cons_zero]; rfl)
                case hQmCY14 => exact fun _ _ _ h => h
                case hymCY14 => exact Or.inl ⟨by rfl, by intro w_ hSw; (try dsimp only at hSw); first | (go_simp; done) | (go_simp; with_reducible rfl)⟩
                try simp only [Act.put, List.setIfInBounds_toArray, List.set_cons_zero, List.set_cons_succ]
                refine wpAnyH_done (by kernel_rfl) ?_ _
                go_wp2
                go_roundg k1
                case measure => omega
                case rel => exact ⟨x + 1, by first | rw [E1.out] | simp, ⟨by have := HK.out; omega⟩, HL2, ⟨hIg⟩, ⟨HSW.out.trans hSg⟩⟩
        · obtain rfl : x = st := by have := HK.out; omega
          have d1 : decide (x < x) = false := decide_eq_false (by omega)
          have hl := HL.out
          rw [List.drop_of_length_le (by simp)] at hl
          obtain rfl : r = false := by simpa [tryL] using hl.symm
          clear hl
          go_wp2
          go_ret
          exact ⟨rfl, HIR.out, HSW.out⟩
set_option maxHeartbeats 16000000 in
set_option maxRecDepth 100000 in
theorem sharings_calls (k : Nat) (w0 : World) (A : Option Addr) (c : Nat) (l : List Int) (st : Nat) (hst : st ≤ 1000) (hC0 : Kd.C (Kd.int .i64) w0 A l.length l) (hlc : l.length ≤ c) (hl9 : l.length ≤ 800) (r : Bool) (h : canF (fun d_ x_ => impl_mayBe.f k l d_ (d_.length : Int) x_) l.length st (l.length + 1) [] = some r)
    (W : World) (hb : Below w0.heap.size w0 W) (hsz : W.heap.size = w0.heap.size + 2) (v : Value) (ho : W.heap[w0.heap.size]? = some (.cells #[v] 38 (0, 0))) (hf : W.heap[w0.heap.size + 1]? = some (.cells #[.bool false] 4 (0, 0))) :
    Calls Try.prog 78 #[.slice A l.length c, .int .i64 (st : Int), .func (.func 79) #[] #[.pointer (some ⟨w0.heap.size, 0, none⟩), .pointer (some ⟨w0.heap.size + 1, 0, none⟩)]] W fun e w' => e = .returned (.tuple #[]) ∧ ShI w0 A c l st r w' := by
  have eg91 : ∀ args w, (callFunc 91 args).run Try.prog w = .ok (.enter 91 args) w := enters_of Try.func91 (by kernel_rfl) rfl
  obtain ⟨W4, hW4⟩ : ∃ W4, W4 = (((W.alloc (.cells #[.slice A l.length c] 38)).alloc (.cells #[.int .i64 (st : Int)] 3)).alloc (.cells #[.func (.func 79) #[] #[.pointer (some ⟨w0.heap.size, 0, none⟩), .pointer (some ⟨w0.heap.size + 1, 0, none⟩)]] 46)).alloc (.cells #[.func (.func 91) #[] #[.pointer (some ⟨w0.heap.size + 2, 0, none⟩), .pointer (some ⟨w0.heap.size + 4, 0, none⟩), .pointer (some ⟨w0.heap.size + 3, 0, none⟩), .pointer (some ⟨w0.heap.size + 5, 0, none⟩)]] 46) := ⟨_, rfl⟩
  have z1 := blk_new W (.cells #[.slice A l.length c] 38)
  have z2 := blk_new (W.alloc (.cells #[.slice A l.length c] 38)) (.cells #[.int .i64 (st : Int)] 3)
  have z3 := blk_new ((W.alloc (.cells #[.slice A l.length c] 38)).alloc (.cells #[.int .i64 (st : Int)] 3)) (.cells #[.func (.func 79) #[] #[.pointer (some ⟨w0.heap.size, 0, none⟩), .pointer (some ⟨w0.heap.size + 1, 0, none⟩)]] 46)
  have z4 := blk_new (((W.alloc (.cells #[.slice A l.length c] 38)).alloc (.cells #[.int .i64 (st : Int)] 3)).alloc (.cells #[.func (.func 79) #[] #[.pointer (some ⟨w0.heap.size, 0, none⟩), .pointer (some ⟨w0.heap.size + 1, 0, none⟩)]] 46)) (.cells #[.func (.func 91) #[] #[.pointer (some ⟨w0.heap.size + 2, 0, none⟩), .pointer (some ⟨w0.heap.size + 4, 0, none⟩), .pointer (some ⟨w0.heap.size + 3, 0, none⟩), .pointer (some ⟨w0.heap.size + 5, 0, none⟩)]] 46)
  rw [World.size_alloc, World.size_alloc, World.size_alloc] at z4
  rw [World.size_alloc, World.size_alloc] at z3
  rw [World.size_alloc] at z2
  rw [hsz] at z1 z2 z3 z4
  have hI : ShI w0 A c l st false W4 := by
    rw [hW4]
    exact ⟨below_alloc (below_alloc (below_alloc (below_alloc hb _) _) _) _, ⟨v, blk_alloc (blk_alloc (blk_alloc (blk_alloc ho _) _) _) _⟩, blk_alloc (blk_alloc (blk_alloc (blk_alloc hf _) _) _) _, blk_alloc (blk_alloc (blk_alloc z1 _) _) _, blk_alloc (blk_alloc z2 _) _, blk_alloc z3 _, z4⟩
  have hs4 : W4.heap.size = w0.heap.size + 6 := by rw [hW4]; simp only [World.size_alloc, hsz]
  have HI := Aside0.mk hI
  have HS4 := Aside0.mk hs4
  have HSZ := Aside0.mk hsz
  have H := Aside0.mk h
  have HC0 := Aside0.mk hC0
  have HLC := Aside0.mk hlc
  clear hb ho hf hsz h hC0 hlc z1 z2 z3 z4 hI hs4
  go_enter Try.func78, Try.ntmps78
  go_upto_region 3 with fail
  simp only [HSZ.out, Nat.add_assoc, Nat.reduceAdd]
  rw [← hW4]
  clear hW4
  have q4 := st_cell HI.out.c4
  go_wp2_with (first
    | ((with_reducible refine gate_dst (N := 9) rfl ?_); refine Kd.R_lit (Kd.int .i64) (w0 := W4) W4.heap.size 3 ?hg (N := 9) ?hd (xs := ([] : List Int)) (inner := []) (ok := fun _ => True) (okp := fun _ => True) ?hr ?hp (fun _ hk => hk) trivial (Below.refl _ _) (Nat.le_refl _) (by simp) ?_; (case hd => rfl); (case hg => rfl); (case hr => first | (go_simp; done) | (go_simp; rfl)); (case hp => exact (Reps.none _ _)); intro v9 w9 ho9 hb9 hg_ hnew_; clear hg_ hnew_; obtain ⟨A9, c9, e9⟩ := Kd.R_slice ho9; subst e9; have HO9 := Aside0.mk ho9; have HB9 := Aside0.mk hb9; clear ho9 hb9)
    | (go_at_fn 91; (refine (add_calls k w0 A c l st hst HC0.out HLC.out (l.length + 1) [] r _ W4.heap.size A9 c9 (HI.out.below HB9.out) HO9.out (by have := HS4.out; omega) HB9.out.size H.out (by simp; omega)).mono ?_); rintro e w10 ⟨rfl, hI10, _⟩; have HI10 := Aside0.mk hI10; clear hI10))
  refine bodyPost_end (results_none rfl _ _ _) rfl ?_
  exact ⟨rfl, HI10.out⟩
set_option maxHeartbeats 16000000 in
set_option maxRecDepth 100000 in
theorem firstSharing_calls (k : Nat) (w : World) (A : Option Addr) (c : Nat) (l : List Int) (st : Nat) (hst : st ≤ 1000) (hC0 : Kd.C (Kd.int .i64) w A l.length l) (hlc : l.length ≤ c) (hl9 : l.length ≤ 800) (r : Bool) (h : canF (fun d_ x_ => impl_mayBe.f k l d_ (d_.length : Int) x_) l.length st (l.length + 1) [] = some r) :
    Calls Try.prog 54 #[.slice A l.length c, .int .i64 (st : Int)] w fun e w' => ∃ v0_ : Value, e = .returned (.tuple #[v0_, .bool r]) ∧ Below w.heap.size w w' := by
  have z1 := blk_alloc (blk_new w (.cells #[.slice none 0 0] 38)) (.cells #[.bool false] 4)
  have z2 := blk_new (w.alloc (.cells #[.slice none 0 0] 38)) (.cells #[.bool false] 4)
  rw [World.size_alloc] at z2
  have HSH := Aside0.mk (sharings_calls k w A c l st hst hC0 hlc hl9 r h ((w.alloc (.cells #[.slice none 0 0] 38)).alloc (.cells #[.bool false] 4)) (below_alloc (below_alloc (Below.refl _ _) _) _) (by simp only [World.size_alloc]) _ z1 z2)
  clear z1 z2 h hC0 hlc
  go_enter Try.func54, Try.ntmps54
  go_wp2_with (go_at_call 78; (refine HSH.out.mono ?_); rintro e w3 ⟨rfl, hI⟩; have HI := Aside0.mk hI; clear hI)
  obtain ⟨vo, ho⟩ := HI.out.co
  have x0 := st_cell ho
  have x1 := st_cell HI.out.cf
  clear ho
  repeat (go_quiet (fail); try go_wp2)
  go_ret2
  exact ⟨_, rfl, by repeat (with_reducible first | exact HI.out.b0 | apply pw_below_drewN | apply below_drew1)⟩
def fewL (M : List Int → Int → Option Bool) (n : Nat) : Nat → Nat → Option Int
  | 0, _ => none
  | m + 1, s => if s ≤ 900 then (canF M n s (n + 1) []).bind fun b => if b = true then some (s : Int) else fewL M n m (s + 1) else none
/-- The least number of stacks. -/
def fewF (k : Nat) (l : List Int) : Option Int := if l.length ≤ 800 then fewL (fun d_ x_ => impl_mayBe.f k l d_ (d_.length : Int) x_) l.length k 1 else none
set_option maxHeartbeats 16000000 in
set_option maxRecDepth 100000 in
theorem fewest_calls (k : Nat) (w : World) (A : Option Addr) (c : Nat) (l : List Int) (hC0 : Kd.C (Kd.int .i64) w A l.length l) (hlc : l.length ≤ c) (r : Int) (h : fewF k l = some r) :
    Calls Try.prog 31 #[.slice A l.length c] w fun e w' => e = .returned (.int .i64 r) ∧ Below w.heap.size w w' := by
  unfold fewF at h
  by_cases hl9 : l.length ≤ 800
  · rw [if_pos hl9] at h
    have H := Aside0.mk h
    have HC0 := Aside0.mk hC0
    have HLC := Aside0.mk hlc
    have HL9 := Aside0.mk hl9
    clear h hC0 hlc hl9
    go_enter Try.func31, Try.ntmps31
    go_wp2
    go_loopg [3] k (fun kq v3 wr => ∃ (s : Nat), v3 = .int .i64 (s : Int) ∧ Aside0 (fewL (fun d_ x_ => impl_mayBe.f k l d_ (d_.length : Int) x_) l.length kq s = some r) ∧ Aside0 (Below w.heap.size w wr))
    case atStart => exact ⟨1, rfl, H, ⟨Below.refl _ _⟩⟩
    case round =>
      clear H
      obtain ⟨s, rfl, HF, HB⟩ := hrel
      cases gk with
      | zero => exact absurd HF.out (by simp [fewL])
      | succ k1 =>
        have hf := HF.out
        simp only [fewL] at hf
        by_cases hs : s ≤ 900
        · rw [if_pos hs] at hf
          obtain ⟨b, hb, hf⟩ := Option.bind_eq_some_iff.1 hf
          have HSH := Aside0.mk (firstSharing_calls k wr A c l s (by omega) (Kd.C_below HC0.out HB.out) HLC.out HL9.out b hb)
          have E1 := Aside0.mk (show wrap64 ((s : Int) + 1) = ((s + 1 : Nat) : Int) by unfold wrap64; omega)
          clear hb
          cases b with
          | true =>
            obtain rfl : (s : Int) = r := by simpa using hf
            clear hf
            go_wp2_with (go_at_call 54; (refine HSH.out.mono ?_); rintro e w3 ⟨v3, rfl, hb⟩; have HB3 := Aside0.mk (below_step HB.out hb); clear hb)
            go_ret
            exact ⟨rfl, HB3.out⟩
          | false =>
            have HF2 := Aside0.mk (show fewL (fun d_ x_ => impl_mayBe.f k l d_ (d_.length : Int) x_) l.length k1 (s + 1) = some r by simpa using hf)
            clear hf
            go_wp2_with (go_at_call 54; (refine HSH.out.mono ?_); rintro e w3 ⟨v3, rfl, hb⟩; have HB3 := Aside0.mk (below_step HB.out hb); clear hb)
            go_roundg k1
            case measure => omega
            case rel => exact ⟨s + 1, by first | rw [E1.out] | simp, HF2, HB3⟩
        · rw [if_neg hs] at hf
          cases hf
  · rw [if_neg hl9] at h
    cases h
theorem mn_cell_of_two {w : World} {b e : Nat} {v0 v1 : Value} (h : w.heap[b]? = some (.cells #[v0, v1] e (0, 0))) : w.cell? ⟨b, 0, none⟩ = some v0 ∧ w.cell? ⟨b, 1, none⟩ = some v1 := by
  constructor <;> simp [World.cell?, h]
theorem mn_free_of_two {w : World} {b e : Nat} {v0 v1 : Value} (h : w.heap[b]? = some (.cells #[v0, v1] e (0, 0))) : w.frozen? ⟨b, 0, none⟩ = false ∧ w.frozen? ⟨b, 1, none⟩ = false := by
  constructor <;> simp [World.frozen?, h]
/-- A function value that tells F of lists, in worlds with S; it may lay blocks. -/
def TellsI (P : Program) (g : Nat) (lb : Array Value) (F : List Int → Option Int) (S : World → Prop) : Prop :=
  ∀ (W : World) (A : Option Addr) (c : Nat) (l : List Int) (r : Int), Kd.C (Kd.int .i64) W A l.length l → l.length ≤ c → F l = some r → S W → Calls P g (#[.slice A l.length c] ++ lb) W fun e w' => e = .returned (.int .i64 r) ∧ Below W.heap.size W w'
theorem TellsI.at_ {P : Program} {g : Nat} {lb : Array Value} {F : List Int → Option Int} {S : World → Prop} (h : TellsI P g lb F S) (W : World) (A : Option Addr) (c : Nat) (l : List Int) (r : Int) (hC : Kd.C (Kd.int .i64) W A l.length l) (hc : l.length ≤ c) (hF : F l = some r) (hW : S W) : Calls P g (#[.slice A l.length c] ++ lb) W fun e w' => e = .returned (.int .i64 r) ∧ Below W.heap.size W w' := h W A c l r hC hc hF hW
def TellsB (P : Program) (g : Nat) (lb : Array Value) (F : List Int → Option Bool) (S : World → Prop) : Prop :=
  ∀ (W : World) (A : Option Addr) (c : Nat) (l : List Int) (r : Bool), Kd.C (Kd.int .i64) W A l.length l → l.length ≤ c → F l = some r → S W → Calls P g (#[.slice A l.length c] ++ lb) W fun e w' => e = .returned (.bool r) ∧ Below W.heap.size W w'
theorem TellsB.at_ {P : Program} {g : Nat} {lb : Array Value} {F : List Int → Option Bool} {S : World → Prop} (h : TellsB P g lb F S) (W : World) (A : Option Addr) (c : Nat) (l : List Int) (r : Bool) (hC : Kd.C (Kd.int .i64) W A l.length l) (hc : l.length ≤ c) (hF : F l = some r) (hW : S W) : Calls P g (#[.slice A l.length c] ++ lb) W fun e w' => e = .returned (.bool r) ∧ Below W.heap.size W w' := h W A c l r hC hc hF hW
def meanL (F : List Int → Option Int) : List (List Int) → Int → Option Int
  | [], s => some s
  | o :: t, s => (F o).bind fun x => meanL F t (wrap64 (s + x))
theorem meanL_le {F G : List Int → Option Int} (h : ∀ l, LeO (F l) (G l)) : ∀ l s, LeO (meanL F l s) (meanL G l s)
  | [], _ => LeO.refl _
  | o :: t, s => LeO.bind (h o) fun _ => meanL_le h t _
def meanF (k : Nat) (F : List Int → Option Int) (n : Int) : Option (Int × Int) := (impl_allOrders.f k n).bind fun l => if l.length < 1000000 then (meanL F l 0).bind fun s => (impl_factorial.f k n).bind fun d => impl_fraction.f k s d else none
theorem meanF_le {k : Nat} {F G : List Int → Option Int} (h : ∀ l, LeO (F l) (G l)) (n : Int) : LeO (meanF k F n) (meanF (k + 1) G n) :=
  LeO.bind (impl_allOrders.mono _ _) fun _ => LeO.ite (LeO.bind (meanL_le h _ _) fun _ => LeO.bind (impl_factorial.mono _ _) fun _ => impl_fraction.mono _ _ _) (LeO.none _)
def rdL (l : List (List Int)) (i : Nat) : List Int := l.getD i []
theorem rdL_drop (l : List (List Int)) (i : Nat) (h : i < l.length) : l.drop i = rdL l i :: l.drop (i + 1) := by
  unfold rdL
  rw [List.drop_eq_getElem_cons h]
  simp [h]
theorem at_rows {w : World} {A : Option Addr} {n : Nat} {xs : List (List Int)} (h : Kd.C (Kd.slice 3 (Kd.int .i64)) w A n xs) (i : Nat) (h1 : i < n) : ∃ ad A0 c0, A = some ad ∧ w.cell? (ad.add i) = some (.slice A0 (rdL xs i).length c0) ∧ (rdL xs i).length ≤ c0 ∧ (Kd.int .i64).C w A0 (rdL xs i).length (rdL xs i) := by
  obtain ⟨ad, c, e, _, hK, hc0⟩ := Kd.C_get h ([] : List Int) (i : Int) (by omega) (by omega)
  rw [Int.toNat_natCast] at hK hc0
  have hc : ∀ j u, c[j]? = some u → w.cell? (ad.add (i * 1 + j)) = some u := hc0
  obtain ⟨A0, c0, rfl, l0, g0⟩ := hK
  exact ⟨ad, A0, c0, e, by have hq := hc 0 _ rfl; rwa [Nat.mul_one, Nat.add_zero] at hq, l0, g0⟩
set_option maxHeartbeats 8000000 in
set_option maxRecDepth 100000 in
theorem mean_calls (k : Nat) (g : Nat) (lb : Array Value) (eg : ∀ args w, (callFunc g args).run Try.prog w = .ok (.enter g args) w) (F : List Int → Option Int) (S : World → Prop) (hS : ∀ W W' : World, S W → Below W.heap.size W W' → S W')
    (ht : TellsI Try.prog g lb F S) (n : Int) (r1 r2 : Int) (w : World) (h : meanF k F n = some (r1, r2)) (h0 : S w) :
    Calls Try.prog 49 #[.int .i64 n, .func (.func g) #[] lb] w fun e w' => e = .returned (.agg #[.int .i64 r1, .int .i64 r2]) ∧ Below w.heap.size w w' := by
  obtain ⟨l, hl, h⟩ := Option.bind_eq_some_iff.1 h
  have hlen : l.length < 1000000 := by
    rcases Nat.lt_or_ge l.length 1000000 with h0 | h0
    · exact h0
    · rw [if_neg (by omega)] at h
      cases h
  rw [if_pos hlen] at h
  obtain ⟨s, hs, h⟩ := Option.bind_eq_some_iff.1 h
  obtain ⟨d, hd, h⟩ := Option.bind_eq_some_iff.1 h
  have hu := Try.underlying22
  have HL := Aside0.mk hl
  have HLEN := Aside0.mk hlen
  have HSUM := Aside0.mk hs
  have HD := Aside0.mk hd
  have HF := Aside0.mk h
  have HT := Aside0.mk ht
  have HS := Aside0.mk hS
  have H0 := Aside0.mk h0
  have HB0 := Aside0.mk (Below.refl w.heap.size w)
  clear hl hlen hs hd h ht hS h0
  go_enter Try.func49, Try.ntmps49
  go_wp2_with (first
    | (go_at_call 71; (refine (impl_allOrders.calls k n l _ HL.out).mono ?_); rintro e w6 ⟨v6, rfl, ho, hb⟩; have ho' := Kd.S_R ho; obtain ⟨A6, c6, e6⟩ := Kd.R_slice ho'; subst e6; have HO := Aside0.mk (Kd.R_reads' ho').2.2; have HB := Aside0.mk hb; clear ho ho' hb))
  have HX : Aside0 (w6.heap[w.heap.size]? = some (.cells #[.int .i64 0, .int .i64 0] 22 (0, 0))) := ⟨(HB.out.block _ (by rw [World.size_alloc]; omega)).trans (blk_new w _)⟩
  have HB6 := Aside0.mk (below_step (below_alloc HB0.out _) HB.out)
  clear HB
  go_loopg [5, 11] l.length (fun kq v5 v11 w' => ∃ (i : Nat) (q : Int), v5 = .int .i64 q ∧ v11 = .int .i64 (i : Int) ∧ Aside0 (i + kq = l.length) ∧ Aside0 (meanL F (l.drop i) q = some s) ∧ Aside0 (w'.heap[w.heap.size]? = some (.cells #[.int .i64 0, .int .i64 0] 22 (0, 0))) ∧ Aside0 (Kd.C (Kd.slice 3 (Kd.int .i64)) w' A6 l.length l) ∧ Aside0 (Below w.heap.size w w'))
  case atStart => exact ⟨0, 0, rfl, rfl, ⟨by omega⟩, HSUM, HX, HO, HB6⟩
  case round =>
    clear HO HB6 HX HSUM
    obtain ⟨i, q, rfl, rfl, HK, HSUM, HX, HO, HB⟩ := hrel
    by_cases hi : i < l.length
    · obtain ⟨k1, hk1⟩ : ∃ k1, gk = k1 + 1 := ⟨gk - 1, by have := HK.out; omega⟩
      subst hk1
      have hd0 : decide (0 ≤ (i : Int)) = true := decide_eq_true (by omega)
      have hd1 : decide (i < l.length) = true := decide_eq_true hi
      have hsum := HSUM.out
      rw [rdL_drop l i hi] at hsum
      obtain ⟨x, hx, hsum⟩ := Option.bind_eq_some_iff.1 hsum
      obtain ⟨ad, A0, c0, eA, hcell, hlc, hC⟩ := at_rows HO.out i hi
      subst eA
      have HFX := Aside0.mk hx
      have HSUM2 := Aside0.mk hsum
      have HLC := Aside0.mk hlc
      have HC := Aside0.mk hC
      have E1 := Aside0.mk (show wrap64 ((i : Int) + 1) = ((i + 1 : Nat) : Int) by have := HLEN.out; unfold wrap64; omega)
      clear hx hsum hlc hC HSUM
      generalize rdL l i = o at hcell HFX HLC HC
      go_wp2_with (go_at_fn g; (with_reducible refine (HT.out.at_ _ A0 c0 o x ?_ HLC.out HFX.out ?_).mono ?_); (first | exact HC.out | exact Kd.C_drewN HC.out _ | exact Kd.C_drew HC.out); (exact HS.out _ _ H0.out (by repeat (first | exact HB.out | apply pw_below_drewN | apply below_drew1))); rintro e w7 ⟨rfl, hb⟩; have HB7 := Aside0.mk (below_step HB.out hb); have HX7 := Aside0.mk ((hb.block _ (lt_of_block HX.out)).trans HX.out); have HO7 := Aside0.mk (Kd.C_below HO.out hb); clear hb)
      go_roundg k1
      case measure => omega
      case rel => exact ⟨i + 1, wrap64 (q + x), rfl, by rw [E1.out], ⟨by have := HK.out; omega⟩, HSUM2, HX7, HO7, HB7⟩
    · obtain rfl : i = l.length := by have := HK.out; omega
      have hs := HSUM.out
      rw [List.drop_length] at hs
      obtain rfl := Option.some.inj hs
      have fx := (mn_free_of_two HX.out).1
      have fx1 := (mn_free_of_two HX.out).2
      clear hs HSUM
      go_wp2_with (first
        | (go_at_call 73; (with_reducible refine (impl_factorial.calls k _ d _ HD.out).mono ?_); rintro e w8 ⟨rfl, ⟨nd, rfl⟩⟩)
        | (go_at_call 72; (with_reducible refine (impl_fraction.calls k _ _ r1 r2 _ HF.out).mono ?_); rintro e w9 ⟨rfl, hb⟩; have HB9 := Aside0.mk (below_step HB.out (show Below wr.heap.size wr w9 from ⟨hb.os, hb.tape, hb.output, hb.size, hb.block⟩)); have HX9 := Aside0.mk ((hb.block _ (lt_of_block HX.out)).trans HX.out); have c0 := (mn_cell_of_two HX9.out).1; have c1 := (mn_cell_of_two HX9.out).2; have f0 := (mn_free_of_two HX9.out).1; have f1 := (mn_free_of_two HX9.out).2; clear hb))
      have g0 := blk_put HX9.out 0 (.int .i64 r1) rfl
      have g1 := blk_put g0 1 (.int .i64 r2) rfl
      refine bodyPost_ret (v := .agg #[.int .i64 r1, .int .i64 r2]) ?_ rfl ?_
      · exact results_single (r := .cell 4 22) rfl (.cell w.heap.size 22 #[.int .i64 r1, .int .i64 r2] (0, 0) _ rfl g1 hu rfl (by kernel_rfl) .nil)
      · exact ⟨rfl, below_set (below_set HB9.out (Nat.le_refl _)) (Nat.le_refl _)⟩
/-- The mean, if so many are drawn. -/
def drawnF (k : Nat) (F : List Int → Option Int) (n : Int) (right : Bool) : Option (Int × Int × Bool) := (impl_isDrawn.f n).bind fun t => if (t && right) = true then (meanF k F n).bind fun r => some (r.1, r.2, true) else some (0, 0, false)
theorem drawnF_le {k : Nat} {F G : List Int → Option Int} (h : ∀ l, LeO (F l) (G l)) (n : Int) (right : Bool) : LeO (drawnF k F n right) (drawnF (k + 1) G n right) :=
  LeO.bind (LeO.refl _) fun _ => LeO.ite (LeO.bind (meanF_le h n) fun _ => LeO.refl _) (LeO.refl _)
set_option maxHeartbeats 8000000 in
set_option maxRecDepth 100000 in
theorem drawnMean_calls (k : Nat) (g : Nat) (lb : Array Value) (eg : ∀ args w, (callFunc g args).run Try.prog w = .ok (.enter g args) w) (F : List Int → Option Int) (S : World → Prop) (hS : ∀ W W' : World, S W → Below W.heap.size W W' → S W')
    (ht : TellsI Try.prog g lb F S) (n : Int) (right : Bool) (r1 r2 : Int) (r3 : Bool) (w : World) (h : drawnF k F n right = some (r1, r2, r3)) (h0 : S w) :
    Calls Try.prog 23 #[.int .i64 n, .bool right, .func (.func g) #[] lb] w fun e w' => e = .returned (.tuple #[.agg #[.int .i64 r1, .int .i64 r2], .bool r3]) ∧ Below w.heap.size w w' := by
  obtain ⟨t, ht1, h⟩ := Option.bind_eq_some_iff.1 h
  have hu := Try.underlying22
  have HT1 := Aside0.mk ht1
  have HT := Aside0.mk ht
  have HS := Aside0.mk hS
  have H0 := Aside0.mk h0
  have HB0 := Aside0.mk (below_alloc (Below.refl w.heap.size w) (.cells #[.int .i64 0, .int .i64 0] 22))
  have HX := Aside0.mk (blk_new w (.cells #[.int .i64 0, .int .i64 0] 22))
  clear ht1 ht hS h0
  by_cases hc : (t && right) = true
  · rw [if_pos hc] at h
    obtain ⟨⟨q1, q2⟩, hm, h⟩ := Option.bind_eq_some_iff.1 h
    have h' := Option.some.inj h
    simp only [Prod.mk.injEq] at h'
    obtain ⟨rfl, rfl, rfl⟩ := h'
    have HM := Aside0.mk hm
    simp only [Bool.and_eq_true] at hc
    obtain ⟨rfl, rfl⟩ := hc
    clear h hm
    have fx := (mn_free_of_two HX.out).1
    have fx1 := (mn_free_of_two HX.out).2
    go_enter Try.func23, Try.ntmps23
    go_wp2_with (first
      | (go_at_call 48; (with_reducible refine (impl_isDrawn.calls n true _ HT1.out).mono ?_); rintro e w6 ⟨rfl, ⟨nd, rfl⟩⟩)
      | (go_at_call 49; (refine (mean_calls k g lb eg F S HS.out HT.out n q1 q2 _ HM.out ?_).mono ?_); (exact HS.out _ _ H0.out (by repeat (first | exact HB0.out | apply pw_below_drewN | apply below_drew1))); rintro e w7 ⟨rfl, hb⟩; have HB7 := Aside0.mk (below_step (pw_below_drewN HB0.out _) hb); have HX7 := Aside0.mk ((hb.block _ (lt_of_block HX.out)).trans HX.out); have c0 := (mn_cell_of_two HX7.out).1; have c1 := (mn_cell_of_two HX7.out).2; have f0 := (mn_free_of_two HX7.out).1; have f1 := (mn_free_of_two HX7.out).2; clear hb))
    have g0 := blk_put HX7.out 0 (.int .i64 q1) rfl
    have g1 := blk_put g0 1 (.int .i64 q2) rfl
    refine bodyPost_ret (v := .tuple #[.agg #[.int .i64 q1, .int .i64 q2], .bool true]) ?_ rfl ?_
    · exact results_list (rs := [.cell 6 22, .tmp 7]) rfl (by simp) (.cell w.heap.size 22 #[.int .i64 q1, .int .i64 q2] (0, 0) _ rfl g1 hu rfl (by kernel_rfl) (.tmp .nil))
    · exact ⟨rfl, below_set (below_set HB7.out (Nat.le_refl _)) (Nat.le_refl _)⟩
  · rw [if_neg hc] at h
    have h' := Option.some.inj h
    simp only [Prod.mk.injEq] at h'
    obtain ⟨rfl, rfl, rfl⟩ := h'
    have c0 := (mn_cell_of_two HX.out).1
    have c1 := (mn_cell_of_two HX.out).2
    have f0 := (mn_free_of_two HX.out).1
    have f1 := (mn_free_of_two HX.out).2
    clear h
    cases t with
    | false =>
      clear hc
      go_enter Try.func23, Try.ntmps23
      go_wp2_with (go_at_call 48; (with_reducible refine (impl_isDrawn.calls n false _ HT1.out).mono ?_); rintro e w6 ⟨rfl, ⟨nd, rfl⟩⟩)
      have g0 := blk_put (w := (w.alloc (.cells #[.int .i64 0, .int .i64 0] 22)).drewN nd) HX.out 0 (.int .i64 0) rfl
      have g1 := blk_put g0 1 (.int .i64 0) rfl
      refine bodyPost_ret (v := .tuple #[.agg #[.int .i64 0, .int .i64 0], .bool false]) ?_ rfl ?_
      · exact results_list (rs := [.cell 6 22, .tmp 7]) rfl (by simp) (.cell w.heap.size 22 #[.int .i64 0, .int .i64 0] (0, 0) _ rfl g1 hu rfl (by kernel_rfl) (.tmp .nil))
      · exact ⟨rfl, below_set (below_set (pw_below_drewN HB0.out _) (Nat.le_refl _)) (Nat.le_refl _)⟩
    | true =>
      cases right with
      | true => exact absurd rfl hc
      | false =>
        clear hc
        go_enter Try.func23, Try.ntmps23
        go_wp2_with (go_at_call 48; (with_reducible refine (impl_isDrawn.calls n true _ HT1.out).mono ?_); rintro e w6 ⟨rfl, ⟨nd, rfl⟩⟩)
        have g0 := blk_put (w := (w.alloc (.cells #[.int .i64 0, .int .i64 0] 22)).drewN nd) HX.out 0 (.int .i64 0) rfl
        have g1 := blk_put g0 1 (.int .i64 0) rfl
        refine bodyPost_ret (v := .tuple #[.agg #[.int .i64 0, .int .i64 0], .bool false]) ?_ rfl ?_
        · exact results_list (rs := [.cell 6 22, .tmp 7]) rfl (by simp) (.cell w.heap.size 22 #[.int .i64 0, .int .i64 0] (0, 0) _ rfl g1 hu rfl (by kernel_rfl) (.tmp .nil))
        · exact ⟨rfl, below_set (below_set (pw_below_drewN HB0.out _) (Nat.le_refl _)) (Nat.le_refl _)⟩
def chF (F : List Int → Option Bool) (l : List Int) : Option Int := (F l).bind fun b => if b = true then some 1 else some 0
def ChS (S : World → Prop) (b g : Nat) (lb : Array Value) (W : World) : Prop := S W ∧ W.heap[b]? = some (.cells #[.func (.func g) #[] lb] 46 (0, 0))
set_option maxHeartbeats 8000000 in
set_option maxRecDepth 100000 in
theorem chance_tells (b g : Nat) (lb : Array Value) (eg : ∀ args w, (callFunc g args).run Try.prog w = .ok (.enter g args) w) (F : List Int → Option Bool) (S : World → Prop) (ht : TellsB Try.prog g lb F S) : TellsI Try.prog 53 #[.pointer (some ⟨b, 0, none⟩)] (chF F) (ChS S b g lb) := by
  intro W A c l r hC hc hF hW
  show Calls Try.prog 53 #[.slice A l.length c, .pointer (some ⟨b, 0, none⟩)] W _
  obtain ⟨t, ht1, hF⟩ := Option.bind_eq_some_iff.1 hF
  have hcell : W.cell? ⟨b, 0, none⟩ = some (.func (.func g) #[] lb) := by simp [World.cell?, hW.2]
  have HC := Aside0.mk hC
  have HLC := Aside0.mk hc
  have HT1 := Aside0.mk ht1
  have HT := Aside0.mk ht
  have HW := Aside0.mk hW.1
  clear hC hc ht1 ht hW
  cases t with
  | true =>
    obtain rfl := Option.some.inj hF
    go_enter Try.func53, Try.ntmps53
    go_wp2_with (go_at_fn g; (with_reducible refine (HT.out.at_ _ A c l true HC.out HLC.out HT1.out HW.out).mono ?_); rintro e w7 ⟨rfl, hb⟩; have HB7 := Aside0.mk hb; clear hb)
    go_ret
    exact ⟨rfl, HB7.out⟩
  | false =>
    obtain rfl := Option.some.inj hF
    go_enter Try.func53, Try.ntmps53
    go_wp2_with (go_at_fn g; (with_reducible refine (HT.out.at_ _ A c l false HC.out HLC.out HT1.out HW.out).mono ?_); rintro e w7 ⟨rfl, hb⟩; have HB7 := Aside0.mk hb; clear hb)
    go_ret
    exact ⟨rfl, HB7.out⟩
set_option maxHeartbeats 8000000 in
set_option maxRecDepth 100000 in
theorem drawnChance_calls (k : Nat) (g : Nat) (lb : Array Value) (eg : ∀ args w, (callFunc g args).run Try.prog w = .ok (.enter g args) w) (F : List Int → Option Bool) (S : World → Prop) (hS : ∀ W W' : World, S W → Below W.heap.size W W' → S W')
    (ht : TellsB Try.prog g lb F S) (n : Int) (right : Bool) (r1 r2 : Int) (r3 : Bool) (w : World) (h : drawnF k (chF F) n right = some (r1, r2, r3)) (h0 : S w) :
    Calls Try.prog 28 #[.int .i64 n, .bool right, .func (.func g) #[] lb] w fun e w' => e = .returned (.tuple #[.agg #[.int .i64 r1, .int .i64 r2], .bool r3]) ∧ Below w.heap.size w w' := by
  have hu := Try.underlying22
  have HM := Aside0.mk h
  have HTL := Aside0.mk (chance_tells w.heap.size g lb eg F S ht)
  have HB2 := Aside0.mk (below_alloc (below_alloc (Below.refl w.heap.size w) (.cells #[.func (.func g) #[] lb] 46)) (.cells #[.int .i64 0, .int .i64 0] 22))
  have z1 := blk_alloc (blk_new w (.cells #[.func (.func g) #[] lb] 46)) (.cells #[.int .i64 0, .int .i64 0] 22)
  have z2 := blk_new (w.alloc (.cells #[.func (.func g) #[] lb] 46)) (.cells #[.int .i64 0, .int .i64 0] 22)
  rw [World.size_alloc] at z2
  have HX0 := Aside0.mk z1
  have HX1 := Aside0.mk z2
  have HSS : Aside0 (∀ W W' : World, ChS S w.heap.size g lb W → Below W.heap.size W W' → ChS S w.heap.size g lb W') := ⟨fun W W' h1 h2 => ⟨hS W W' h1.1 h2, (h2.block _ (lt_of_block h1.2)).trans h1.2⟩⟩
  have H0 : Aside0 (ChS S w.heap.size g lb ((w.alloc (.cells #[.func (.func g) #[] lb] 46)).alloc (.cells #[.int .i64 0, .int .i64 0] 22))) := ⟨⟨hS _ _ (hS _ _ h0 (below_alloc (Below.refl w.heap.size w) _)) (below_alloc (Below.refl _ _) _), z1⟩⟩
  have eg2 : ∀ args w, (callFunc 53 args).run Try.prog w = .ok (.enter 53 args) w := enters_of Try.func53 (by kernel_rfl) rfl
  clear z1 z2 h hS ht h0
  go_enter Try.func28, Try.ntmps28
  go_wp2_with (go_at_call 23; (refine (drawnMean_calls k 53 #[.pointer (some ⟨w.heap.size, 0, none⟩)] eg2 (chF F) (ChS S w.heap.size g lb) HSS.out HTL.out n right r1 r2 r3 _ HM.out ?_).mono ?_); (exact H0.out); rintro e w7 ⟨rfl, hb⟩; have HB7 := Aside0.mk (below_step HB2.out hb); have HX7 := Aside0.mk ((hb.block (w.heap.size + 1) (lt_of_block HX1.out)).trans HX1.out); have c0 := (mn_cell_of_two HX7.out).1; have c1 := (mn_cell_of_two HX7.out).2; have f0 := (mn_free_of_two HX7.out).1; have f1 := (mn_free_of_two HX7.out).2; clear hb)
  have g0 := blk_put HX7.out 0 (.int .i64 r1) rfl
  have g1 := blk_put g0 1 (.int .i64 r2) rfl
  refine bodyPost_ret (v := .tuple #[.agg #[.int .i64 r1, .int .i64 r2], .bool r3]) ?_ rfl ?_
  · exact results_list (rs := [.cell 6 22, .tmp 7]) rfl (by simp) (.cell (w.heap.size + 1) 22 #[.int .i64 r1, .int .i64 r2] (0, 0) _ rfl g1 hu rfl (by kernel_rfl) (.tmp .nil))
  · exact ⟨rfl, below_set (below_set HB7.out (by show w.heap.size ≤ w.heap.size + 1; omega)) (by show w.heap.size ≤ w.heap.size + 1; omega)⟩

/-- Whether the closure tells true of an order. -/
def stF (k : Nat) (a1 : Int) (l : List Int) : Option Bool := (fewF k l).bind fun q => some (q == a1)
def StS (b : Nat) (a1 : Int) (W : World) : Prop := W.heap[b]? = some (.cells #[.int .i64 a1] 3 (0, 0))
set_option maxHeartbeats 8000000 in
set_option maxRecDepth 100000 in
theorem stacks_tells (k : Nat) (b : Nat) (a1 : Int) : TellsB Try.prog 30 #[.pointer (some ⟨b, 0, none⟩)] (stF k a1) (StS b a1) := by
  intro W A c l r hC hc hF hW
  show Calls Try.prog 30 #[.slice A l.length c, .pointer (some ⟨b, 0, none⟩)] W _
  obtain ⟨q, hq, hF⟩ := Option.bind_eq_some_iff.1 hF
  obtain rfl := Option.some.inj hF
  have HW := Aside0.mk hW
  have HC := Aside0.mk hC
  have HLC := Aside0.mk hc
  have HQ := Aside0.mk hq
  clear hF hC hc hq hW
  go_enter Try.func30, Try.ntmps30
  go_upto_region 1 with fail
  go_region_held3 (fun W_ => W_.cell? ⟨b, 0, none⟩ = some (.int .i64 a1) ∧ Below W.heap.size W W_) (first | exact ⟨st_cell HW.out, below_drew (Below.refl _ _)⟩ | exact ⟨(hb7.cell (World.block_lt_of_cell? _ _ (And.left (by assumption)))).trans (And.left (by assumption)), below_step (And.right (by assumption)) hb7⟩ | go_keep)
    (first
    | (go_at_call 31; (refine (fewest_calls k _ A c l (Kd.C_below HC.out (And.right (by assumption))) HLC.out q HQ.out).mono ?_); rintro e w7 ⟨rfl, hb7⟩))
  all_goals go_wp2
  all_goals go_ret
  all_goals exact ⟨rfl, And.right (by assumption)⟩
def impl_ChanceStacks.f (k : Nat) (a0 a1 : Int) : Option (Int × Int × Bool) := (impl_isStacks.f a1).bind fun b => drawnF k (chF (stF k a1)) a0 b
theorem tryL_le {M N : List Int → Int → Option Bool} {G H : List Int → Option Bool} (h : ∀ d x, LeO (M d x) (N d x)) (g : ∀ d, LeO (G d) (H d)) (d : List Int) : ∀ t, LeO (tryL M G d t) (tryL N H d t)
  | [] => LeO.refl _
  | x :: t => LeO.bind (h _ _) fun _ => LeO.ite (LeO.bind (g _) fun _ => LeO.ite (LeO.refl _) (tryL_le h g d t)) (tryL_le h g d t)
theorem canF_le {M N : List Int → Int → Option Bool} (h : ∀ d x, LeO (M d x) (N d x)) (n st : Nat) : ∀ m d, LeO (canF M n st m d) (canF N n st m d)
  | 0, _ => LeO.refl _
  | m + 1, d => LeO.ite (LeO.refl _) (tryL_le h (canF_le h n st m) d _)
theorem fewL_le {M N : List Int → Int → Option Bool} (h : ∀ d x, LeO (M d x) (N d x)) (n : Nat) : ∀ m s, LeO (fewL M n m s) (fewL N n (m + 1) s)
  | 0, _ => LeO.none _
  | m + 1, s => LeO.ite (LeO.bind (canF_le h n s _ _) fun _ => LeO.ite (LeO.refl _) (fewL_le h n m (s + 1))) (LeO.refl _)
theorem fewF_le (k : Nat) (l : List Int) : LeO (fewF k l) (fewF (k + 1) l) := LeO.ite (fewL_le (fun _ _ => impl_mayBe.mono _ _ _ _ _) _ _ _) (LeO.refl _)
theorem stF_le (k : Nat) (a1 : Int) (l : List Int) : LeO (stF k a1 l) (stF (k + 1) a1 l) := LeO.bind (fewF_le k l) fun _ => LeO.refl _
theorem impl_ChanceStacks.mono : ∀ a0 a1 k, LeO (impl_ChanceStacks.f k a0 a1) (impl_ChanceStacks.f (k + 1) a0 a1) := fun a0 a1 k => LeO.bind (LeO.refl _) fun _ => drawnF_le (fun l => LeO.bind (stF_le k a1 l) fun _ => LeO.refl _) a0 _
set_option maxHeartbeats 8000000 in
set_option maxRecDepth 100000 in
theorem impl_ChanceStacks.calls (k : Nat) (a0 a1 : Int) (r1_0 r1_1 : Int) (r2 : Bool) (w : World) (h : impl_ChanceStacks.f k a0 a1 = some (r1_0, r1_1, r2)) :
    Calls Try.prog 11 #[.int .i64 a0, .int .i64 a1] w fun e w' => e = .returned (.tuple #[.agg #[.int .i64 r1_0, .int .i64 r1_1], .bool r2]) ∧ Below w.heap.size w w' := by
  have hu := Try.underlying22
  obtain ⟨t, ht, h⟩ := Option.bind_eq_some_iff.1 h
  have HT := Aside0.mk ht
  have H := Aside0.mk h
  have z1 := blk_alloc (blk_new w (.cells #[.int .i64 a1] 3)) (.cells #[.int .i64 0, .int .i64 0] 22)
  have z2 := blk_new (w.alloc (.cells #[.int .i64 a1] 3)) (.cells #[.int .i64 0, .int .i64 0] 22)
  rw [World.size_alloc] at z2
  have HK := Aside0.mk z1
  have HX := Aside0.mk z2
  have q1 := st_cell z1
  have HB0 := Aside0.mk (below_alloc (below_alloc (Below.refl w.heap.size w) (.cells #[.int .i64 a1] 3)) (.cells #[.int .i64 0, .int .i64 0] 22))
  have eg : ∀ args w, (callFunc 30 args).run Try.prog w = .ok (.enter 30 args) w := enters_of Try.func30 (by kernel_rfl) rfl
  clear h ht z1 z2
  go_enter Try.func11, Try.ntmps11
  go_wp2_with (first
    | (go_at_call 29; (with_reducible refine (impl_isStacks.calls a1 t _ HT.out).mono ?_); rintro e w5 ⟨rfl, hd⟩; have hb := Drawn0.below hd; have HB5 := Aside0.mk (below_step HB0.out hb); have HK5 := Aside0.mk ((hb.block _ (lt_of_block HK.out)).trans HK.out); have HX5 := Aside0.mk ((hb.block _ (lt_of_block HX.out)).trans HX.out); clear hd hb)
    | (go_at_call 28; (refine (drawnChance_calls k 30 #[.pointer (some ⟨w.heap.size, 0, none⟩)] eg (stF k a1) (StS w.heap.size a1) (fun W W' h1 h2 => (h2.block _ (lt_of_block h1)).trans h1) (stacks_tells k w.heap.size a1) a0 t r1_0 r1_1 r2 _ H.out HK5.out).mono ?_); rintro e w7 ⟨rfl, hb⟩; have HB7 := Aside0.mk (below_step HB5.out hb); have HX7 := Aside0.mk ((hb.block _ (lt_of_block HX5.out)).trans HX5.out); have c0 := (mn_cell_of_two HX7.out).1; have c1 := (mn_cell_of_two HX7.out).2; have f0 := (mn_free_of_two HX7.out).1; have f1 := (mn_free_of_two HX7.out).2; clear hb))
  have g0 := blk_put HX7.out 0 (.int .i64 r1_0) rfl
  have g1 := blk_put g0 1 (.int .i64 r1_1) rfl
  refine bodyPost_ret (v := .tuple #[.agg #[.int .i64 r1_0, .int .i64 r1_1], .bool r2]) ?_ rfl ?_
  · exact results_list (rs := [.cell 4 22, .tmp 5]) rfl (by simp) (.cell (w.heap.size + 1) 22 #[.int .i64 r1_0, .int .i64 r1_1] (0, 0) _ rfl g1 hu rfl (by kernel_rfl) (.tmp .nil))
  · exact ⟨rfl, below_set (below_set HB7.out (by show w.heap.size ≤ w.heap.size + 1; omega)) (by show w.heap.size ≤ w.heap.size + 1; omega)⟩

end Go.Proofs.Ytndpogefcpinfaa.Xk
