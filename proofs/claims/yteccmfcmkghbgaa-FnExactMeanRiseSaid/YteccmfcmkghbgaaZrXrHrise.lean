/- The mean rise of drawn orders: impl.choose, the longest lists, the least of them, the mean. -/
import Derived.Test.YteccmfcmkghbgaaZrXr0
import Derived.Test.YteccmfcmkghbgaaZrXr3
import Derived.Test.YteccmfcmkghbgaaZrXr4
import Derived.Test.YteccmfcmkghbgaaZrXr5
import Derived.Test.YteccmfcmkghbgaaZrXrHclone
import Derived.OneCell
import Derived.Laws.EntriesVeiled
import Derived.Lib.SliceRun
import Derived.Shelf.Abstract
import Derived.Outline
import Derived.Deep.RegionHeld3
import Derived.BigQuiet
import Derived.Deep.QuietTactic
import Derived.RegionTactic
import Derived.BigRegion
namespace Go.Proofs.Yteccmfcmkghbgaa.Xr
open Go.RowKit Go.Proofs.YteccmfcmkghbgaaW.PrintWords Go.Proofs.YteccmfcmkghbgaaW.PrintLast Go.Proofs.YteccmfcmkghbgaaW.PrintMore
attribute [local go_sem] max2_int min2_int max_two min_two max_three min_three max_four min_four
set_option linter.unusedVariables false
set_option linter.unusedSimpArgs false
theorem ch_cell {w : World} {b e : Nat} {v : Value} (h : w.heap[b]? = some (.cells #[v] e (0, 0))) : w.cell? ⟨b, 0, none⟩ = some v := by simp [World.cell?, h]
/-- What stays: every block but those of O, and all but memory. -/
structure Fr (O : Nat → Prop) (W W2 : World) : Prop where
  os : W2.os = W.os
  tape : W2.tape = W.tape
  output : W2.output = W.output
  size : W.heap.size ≤ W2.heap.size
  block : ∀ i, i < W.heap.size → ¬ O i → W2.heap[i]? = W.heap[i]?
def Nw (O O2 : Nat → Prop) (W : World) : Prop := ∀ i, O2 i → O i ∨ W.heap.size ≤ i
section
variable {O O2 O3 : Nat → Prop} {W W2 W3 : World}
theorem Fr.refl (O : Nat → Prop) (W : World) : Fr O W W := ⟨rfl, rfl, rfl, Nat.le_refl _, fun _ _ _ => rfl⟩
theorem Fr.of_below (h : Below W.heap.size W W2) : Fr O W W2 := ⟨h.os, h.tape, h.output, h.size, fun i hi _ => h.block i hi⟩
theorem Fr.trans (h : Fr O W W2) (hn : Nw O O2 W) (k : Fr O2 W2 W3) : Fr O W W3 := ⟨k.os.trans h.os, k.tape.trans h.tape, k.output.trans h.output, Nat.le_trans h.size k.size, fun i hi ho => (k.block i (Nat.lt_of_lt_of_le hi h.size) (fun h2 => (hn i h2).elim ho (fun h3 => absurd hi (by omega)))).trans (h.block i hi ho)⟩
theorem Nw.refl (O : Nat → Prop) (W : World) : Nw O O W := fun _ h => .inl h
theorem Nw.trans (h : Nw O O2 W) (hs : W.heap.size ≤ W2.heap.size) (k : Nw O2 O3 W2) : Nw O O3 W := fun i h3 => (k i h3).elim (h i) (fun h4 => .inr (Nat.le_trans hs h4))
theorem Fr.below {B : Nat} {w0 : World} (h : Fr O W W2) (hb : Below B w0 W) (hB : B ≤ W.heap.size) (hO : ∀ i, O i → B ≤ i) : Below B w0 W2 := ⟨h.os.trans hb.os, h.tape.trans hb.tape, h.output.trans hb.output, Nat.le_trans hb.size h.size, fun i hi => (h.block i (Nat.lt_of_lt_of_le hi hB) (fun ho => absurd (hO i ho) (by omega))).trans (hb.block i hi)⟩
theorem Fr.weaken {O2 : Nat → Prop} (h : Fr O W W2) (hw : ∀ i, O i → O2 i) : Fr O2 W W2 := ⟨h.os, h.tape, h.output, h.size, fun i hi ho => h.block i hi (fun h2 => ho (hw i h2))⟩
end
/-- The cells of choose from block q on. -/
structure ChI (q g : Nat) (lb : Array Value) (n many : Int) (W : World) : Prop where
  cn : W.heap[q]? = some (.cells #[.int .i64 n] 3 (0, 0))
  cm : W.heap[q + 1]? = some (.cells #[.int .i64 many] 3 (0, 0))
  cw : W.heap[q + 2]? = some (.cells #[.func (.func g) #[] lb] 40 (0, 0))
  ca : W.heap[q + 3]? = some (.cells #[.func (.func 66) #[] #[.pointer (some ⟨q + 1, 0, none⟩), .pointer (some ⟨q + 2, 0, none⟩), .pointer (some ⟨q, 0, none⟩), .pointer (some ⟨q + 3, 0, none⟩)]] 66 (0, 0))
theorem ChI.fr {q g : Nat} {lb : Array Value} {n many : Int} {W W2 : World} {O : Nat → Prop} (h : ChI q g lb n many W) (hf : Fr O W W2) (hq : ∀ i, O i → i < q ∨ q + 4 ≤ i) : ChI q g lb n many W2 :=
  ⟨(hf.block _ (lt_of_block h.cn) (fun ho => by have := hq _ ho; omega)).trans h.cn, (hf.block _ (lt_of_block h.cm) (fun ho => by have := hq _ ho; omega)).trans h.cm, (hf.block _ (lt_of_block h.cw) (fun ho => by have := hq _ ho; omega)).trans h.cw, (hf.block _ (lt_of_block h.ca) (fun ho => by have := hq _ ho; omega)).trans h.ca⟩
theorem ChI.below {q g : Nat} {lb : Array Value} {n many : Int} {W W2 : World} (h : ChI q g lb n many W) (hb : Below W.heap.size W W2) : ChI q g lb n many W2 := h.fr (O := fun _ => False) (Fr.of_below hb) (fun _ h_ => h_.elim)
/-- A row of one's own beside what O may change. -/
theorem row_fr {W W2 : World} {O O2 : Nat → Prop} {base : Nat} {v : Value} {d : List Int} (hR : Kd.R (Kd.int .i64) 3 W base (fun k => ¬ O k) v d) (hf : Fr O W W2) (hn : Nw O O2 W) : Kd.R (Kd.int .i64) 3 W2 base (fun k => ¬ O2 k) v d :=
  Kd.R_mono (Kd.R_move (Kd.R_bound hR) (fun k hk => hf.block k hk.2.2.1 hk.1)) (fun k hk h2 => (hn k h2).elim hk.1 (fun h3 => absurd hk.2.2.1 (by omega)))
theorem row_new {W : World} {O : Nat → Prop} {base : Nat} {v : Value} {d : List Int} (hR : Kd.R (Kd.int .i64) 3 W base (fun _ => True) v d) (hO : ∀ i, O i → i < base) : Kd.R (Kd.int .i64) 3 W base (fun k => ¬ O k) v d :=
  Kd.R_mono (Kd.R_bound hR) (fun k hk h2 => absurd (hO k h2) (by have := hk.2.1; omega))
section
variable {σ : Type}
/-- Places from i on, as long as it isn't enough. -/
def chL (G : Nat → σ → Option (Bool × σ)) : Nat → Nat → σ → Option (Bool × σ)
  | 0, _, s => some (false, s)
  | c + 1, i, s => (G i s).bind fun r => if r.1 = true then some (true, r.2) else chL G c (i + 1) r.2
def chF (F : List Int → σ → Option (Bool × σ)) (n many : Nat) : Nat → List Int → Nat → σ → Option (Bool × σ)
  | 0, _, _, _ => none
  | m + 1, d, i, s => if d.length = many then F d s else chL (fun x s => chF F n many m (d ++ [(x : Int)]) (x + 1) s) (n - i) i s
theorem chL_le {G H : Nat → σ → Option (Bool × σ)} (h : ∀ i s, LeO (G i s) (H i s)) : ∀ c i s, LeO (chL G c i s) (chL H c i s)
  | 0, _, _ => LeO.refl _
  | c + 1, i, s => LeO.bind (h i s) fun _ => LeO.ite (LeO.refl _) (chL_le h c _ _)
theorem chF_le {F G : List Int → σ → Option (Bool × σ)} (h : ∀ d s, LeO (F d s) (G d s)) (n many : Nat) : ∀ m d i s, LeO (chF F n many m d i s) (chF G n many m d i s)
  | 0, _, _, _ => LeO.none _
  | m + 1, d, i, s => LeO.ite (h d s) (chL_le (fun x s => chF_le h n many m _ _ s) _ _ _)
/-- A function value that tells F of lists and of its state s; what it may write is O. -/
def Steps (P : Program) (g : Nat) (lb : Array Value) (F : List Int → σ → Option (Bool × σ)) (I : σ → (Nat → Prop) → World → Prop) : Prop :=
  ∀ (W : World) (A : Option Addr) (c : Nat) (l : List Int) (s s' : σ) (b : Bool) (O : Nat → Prop), Kd.C (Kd.int .i64) W A l.length l → l.length ≤ c → l.length ≤ 1000 → F l s = some (b, s') → I s O W →
    Calls P g (#[.slice A l.length c] ++ lb) W fun e w' => e = .returned (.bool b) ∧ ∃ O', I s' O' w' ∧ Fr O W w' ∧ Nw O O' W
theorem Steps.at_ {P : Program} {g : Nat} {lb : Array Value} {F : List Int → σ → Option (Bool × σ)} {I : σ → (Nat → Prop) → World → Prop} (h : Steps P g lb F I) (W : World) (A : Option Addr) (c : Nat) (l : List Int) (s s' : σ) (b : Bool) (O : Nat → Prop) (hC : Kd.C (Kd.int .i64) W A l.length l) (hc : l.length ≤ c) (hl : l.length ≤ 1000) (hF : F l s = some (b, s')) (hI : I s O W) :
    Calls P g (#[.slice A l.length c] ++ lb) W fun e w' => e = .returned (.bool b) ∧ ∃ O', I s' O' w' ∧ Fr O W w' ∧ Nw O O' W := h W A c l s s' b O hC hc hl hF hI
variable {ops : Array Oper} {rest : List Oper} {o : Oper} {a : Act} {Q : Exit → Act → World → Prop} {Kc : Act → World → Prop}
/-- A number behind a row of one's own, in a region that draws. -/
theorem app1_step {W : World} (hw : Region.wanted o (yielded ops a.tmps) = true) (s x : Operand) (ho : o.op = .call { callee := .builtin .append, args := #[s, x], argTypes := #[36, 36] }) (base : Nat) (v : Value) (d : List Int) (y : Int) (ad : Addr) (hs : a.eval s = v) (hx : a.eval x = .slice (some ad) 1 1)
    (hR : Kd.R (Kd.int .i64) 3 W base (fun _ => True) v d) (hcell : W.cell? (ad.add 0) = some (.int .i64 y)) (hl : d.length ≤ 1000) (hbase : base ≤ W.heap.size)
    (h : ∀ v1 w1, Kd.R (Kd.int .i64) 3 w1 base (fun _ => True) v1 (d ++ [y]) → W.grownBy w1 v.ownBlock → Below base W w1 → Kc (a.put o.dst v1) w1) : if Region.wanted o (yielded ops a.tmps) = true then Oper.wp Try.prog o a W Kc Q else Kc (a.put o.dst undef) W := by
  obtain ⟨i0, hi0, hz0, hsz0, hby0⟩ := info_parts info3
  obtain ⟨v', w', hrun, hown, hg, _⟩ := run_append_own (P := Try.prog) (w := W) base 36 o.type 3 i0 (.int .i64 0) 1 8 Try.underlying36 hi0 hz0 hsz0 hby0 rfl (by omega) v d.length (encs (Value.int .i64) d) (Kd.own_of_R hR) ad 1 1 [.int .i64 y] rfl (fun j u hj => by
    have hj0 : j = 0 := by
      rcases Nat.eq_zero_or_pos j with h_ | h_
      · exact h_
      · rw [List.getElem?_eq_none (by simp; omega)] at hj
        cases hj
    subst hj0
    have : u = .int .i64 y := by simpa using hj.symm
    rw [this]
    exact hcell) (fun u hu => by
    have : u = .int .i64 y := by simpa using hu
    rw [this]
    rfl) (by show d.length + 1 ≤ 9223372036854775807; omega) (by omega) hbase
  rw [if_pos hw]
  unfold Oper.wp execOp
  simp only [ho, resolve, invoke, builtin, Sem.run_bind, Sem.run_pure, Result.andThen_ok, List.map_toArray, List.map_cons, List.map_nil, hs, hx, hrun]
  refine h v' w' (Kd.R_of_own (by simpa [encs] using hown) (fun _ _ => trivial)) hg ((Below.refl _ _).grown hg hbase (fun k hk => Kd.R_base hR k hk))
end
set_option maxHeartbeats 16000000 in
set_option maxRecDepth 100000 in
theorem add_calls {σ : Type} (g : Nat) (lb : Array Value) (eg : ∀ args w, (callFunc g args).run Try.prog w = .ok (.enter g args) w) (F : List Int → σ → Option (Bool × σ)) (I : σ → (Nat → Prop) → World → Prop)
    (hI : ∀ s O W W', I s O W → Below W.heap.size W W' → I s O W') (hO : ∀ s O W, I s O W → ∀ i, O i → i < W.heap.size) (ht : Steps Try.prog g lb F I) (q n many : Nat) (hn : n ≤ 1000) (hm : many ≤ 800) :
    ∀ (m : Nat) (d : List Int) (fr : Nat) (s s' : σ) (b : Bool) (W : World) (base : Nat) (Ad : Option Addr) (cd : Nat) (O : Nat → Prop), ChI q g lb (n : Int) (many : Int) W → Kd.R (Kd.int .i64) 3 W base (fun k => ¬ O k) (.slice Ad d.length cd) d → base ≤ W.heap.size → I s O W → (∀ i, O i → i < q ∨ q + 4 ≤ i) → q + 4 ≤ W.heap.size → chF F n many m d fr s = some (b, s') → d.length + m ≤ 900 → fr ≤ 1001 →
    Calls Try.prog 66 #[.slice Ad d.length cd, .int .i64 (fr : Int), .pointer (some ⟨q + 1, 0, none⟩), .pointer (some ⟨q + 2, 0, none⟩), .pointer (some ⟨q, 0, none⟩), .pointer (some ⟨q + 3, 0, none⟩)] W fun e w' => e = .returned (.bool b) ∧ ∃ O', I s' O' w' ∧ Fr O W w' ∧ Nw O O' W := by
  have eg66 : ∀ args w, (callFunc 66 args).run Try.prog w = .ok (.enter 66 args) w := enters_of Try.func66 (by kernel_rfl) rfl
  have HT := Aside0.mk ht
  have HN := Aside0.mk hn
  clear ht hn
  intro m
  induction m with
  | zero =>
    intro d fr s s' b W base Ad cd O _ _ _ _ _ _ h
    cases h
  | succ m IH =>
    intro d fr s s' b W base Ad cd O hci hR hb1 hIs hq hqw h hdm hfr
    have HCI := Aside0.mk hci
    have HR := Aside0.mk hR
    have HB1 := Aside0.mk hb1
    have HIS := Aside0.mk hIs
    have HQ := Aside0.mk hq
    have HQW := Aside0.mk hqw
    have HBD := Aside0.mk hdm
    have HFR := Aside0.mk hfr
    have q1 := ch_cell hci.cm
    have q2 := ch_cell hci.cw
    have HC0 := Aside0.mk (Kd.R_reads' hR).2.2
    have HL0 := Aside0.mk (Kd.R_reads' hR).2.1
    simp only [chF] at h
    by_cases hd : d.length = many
    · rw [if_pos hd] at h
      have H := Aside0.mk h
      have heq : ((d.length : Int) == (many : Int)) = true := by rw [hd]; simp
      clear hci hR hb1 hIs hq hqw h hdm hfr hd
      go_enter Try.func66, Try.ntmps66
      go_wp2_with (go_at_fn g; (refine (HT.out.at_ _ Ad cd d s s' b O HC0.out HL0.out (by have := HBD.out; omega) H.out HIS.out).mono ?_); rintro e w2 ⟨rfl, O2, hi2, hf2, hn2⟩; have HI2 := Aside0.mk hi2; have HF2 := Aside0.mk hf2; have HN2 := Aside0.mk hn2; clear hi2 hf2 hn2)
      go_ret
      exact ⟨rfl, O2, HI2.out, HF2.out, HN2.out⟩
    · rw [if_neg hd] at h
      have heq : ((d.length : Int) == (many : Int)) = false := beq_eq_false_iff_ne.2 (by omega)
      have H := Aside0.mk h
      clear hci hR hb1 hIs hq hqw h hdm hfr hd
      go_enter Try.func66, Try.ntmps66
      go_wp2
      go_loopg [9] (n - fr) (fun kq v9 wr => ∃ (x : Nat) (sx : σ) (Ox : Nat → Prop), v9 = .int .i64 (x : Int) ∧ Aside0 (n - x = kq ∧ x ≤ 1001) ∧ Aside0 (chL (fun x s => chF F n many m (d ++ [(x : Int)]) (x + 1) s) kq x sx = some (b, s')) ∧ Aside0 (ChI q g lb (n : Int) (many : Int) wr) ∧ Aside0 (Kd.R (Kd.int .i64) 3 wr base (fun k => ¬ Ox k) (.slice Ad d.length cd) d) ∧ Aside0 (I sx Ox wr) ∧ Aside0 (∀ i, Ox i → i < q ∨ q + 4 ≤ i) ∧ Aside0 (Fr O W wr) ∧ Aside0 (Nw O Ox W))
      case atStart => exact ⟨fr, s, O, rfl, ⟨rfl, HFR.out⟩, H, HCI, HR, HIS, HQ, ⟨Fr.refl _ _⟩, ⟨Nw.refl _ _⟩⟩
      case round =>
        clear q1 q2 H heq HCI HR HIS HQ HC0 HL0
        obtain ⟨x, sx, Ox, rfl, HK, HL, HCI, HRD, HIX, HOX, HFX, HNX⟩ := hrel
        have q3 := ch_cell HCI.out.cn
        by_cases hx : x < n
        · obtain ⟨k1, hk1⟩ : ∃ k1, gk = k1 + 1 := ⟨gk - 1, by have := HK.out; omega⟩
          subst hk1
          have d1 : decide (x < n) = true := decide_eq_true hx
          have hl := HL.out
          simp only [chL] at hl
          obtain ⟨⟨r1, s1⟩, hr1, hl⟩ := Option.bind_eq_some_iff.1 hl
          have HDC := Aside0.mk (Kd.R_reads' HRD.out).2.2
          have HLD := Aside0.mk (Kd.R_reads' HRD.out).2.1
          have hCa : ChI q g lb (n : Int) (many : Int) wr.drew := HCI.out.below (below_drew (Below.refl _ _))
          have E1 := Aside0.mk (show wrap64 ((x : Int) + 1) = ((x + 1 : Nat) : Int) by have := HN.out; unfold wrap64; omega)
          obtain ⟨dx, hdx⟩ : ∃ dx, dx = d ++ [(x : Int)] := ⟨_, rfl⟩
          rw [← hdx] at hr1
          have HDL := Aside0.mk (show dx.length = d.length + 1 by rw [hdx]; simp)
          have HDX := Aside0.mk hdx
          have HG := Aside0.mk hr1
          have HCL := Aside0.mk (show slices_Clone_int_int.f d = some d by unfold slices_Clone_int_int.f; rw [if_pos (by have := HBD.out; omega)])
          replace HQW := Aside0.mk (Nat.le_trans HQW.out HFX.out.size)
          clear hr1 hdx
          cases r1 with
          | true =>
            rw [if_pos rfl] at hl
            have h' := Option.some.inj hl
            simp only [Prod.mk.injEq] at h'
            obtain ⟨rfl, rfl⟩ := h'
            clear hl
            go_upto_region 6 with fail
            refine wp_region_held_drew (S := ChI q g lb (n : Int) (many : Int)) (by kernel_rfl) hCa (fun hHeld => ?_)
            refine wpAnyH_take (i := 0) (oi := ?oimA0) (v := (.func (.func 66) #[] #[.pointer (some ⟨q + 1, 0, none⟩), .pointer (some ⟨q + 2, 0, none⟩), .pointer (some ⟨q, 0, none⟩), .pointer (some ⟨q + 3, 0, none⟩)])) ?himA0 (by kernel_rfl) (by kernel_rfl) (by kernel_rfl) ?hQmA0 ?hymA0 hHeld ?hmA0
            case himA0 => (simp only [List.getElem?_toArray, List.getElem?_cons_succ, List.getElem?_cons_zero]; rfl)
            case hQmA0 => exact fun _ _ _ h => h
            case hymA0 => exact Or.inl ⟨by rfl, by intro w_ hSw; have h_ := ch_cell (ChI.ca hSw); first | (go_simp; done) | (go_simp; with_reducible rfl)⟩
            try simp only [Act.put, List.setIfInBounds_toArray, List.set_cons_zero, List.set_cons_succ]
            refine wpAnyH_take (i := 1) (oi := ?oimA1) (v := ?vmA1) ?himA1 (by kernel_rfl) (by kernel_rfl) (by kernel_rfl) ?hQmA1 ?hymA1 hHeld ?hmA1
            case himA1 => (simp only [List.getElem?_toArray, List.getElem?_cons_succ, List.getElem?_cons_zero]; rfl)
            case hQmA1 => exact fun _ _ _ h => h
            case hymA1 => exact Or.inl ⟨by rfl, by intro w_ hSw; (try dsimp only at hSw); first | (go_simp; done) | (go_simp; with_reducible rfl)⟩
            try simp only [Act.put, List.setIfInBounds_toArray, List.set_cons_zero, List.set_cons_succ]
            refine wpAnyH_take (i := 3) (oi := ?oimA3) (v := ?vmA3) ?himA3 (by kernel_rfl) (by kernel_rfl) (by kernel_rfl) ?hQmA3 ?hymA3 hHeld ?hmA3
            case himA3 => (simp only [List.getElem?_toArray, List.getElem?_cons_succ, List.getElem?_cons_zero]; rfl)
            case hQmA3 => exact fun _ _ _ h => h
            case hymA3 => exact Or.inl ⟨by rfl, by intro w_ hSw; (try dsimp only at hSw); first | (go_simp; done) | (go_simp; with_reducible rfl)⟩
            try simp only [Act.put, List.setIfInBounds_toArray, List.set_cons_zero, List.set_cons_succ]
            refine wpAnyH_take (i := 6) (oi := ?oimA6) (v := ?vmA6) ?himA6 (by kernel_rfl) (by kernel_rfl) (by kernel_rfl) ?hQmA6 ?hymA6 hHeld ?hmA6
            case himA6 => (simp only [List.getElem?_toArray, List.getElem?_cons_succ, List.getElem?_cons_zero]; rfl)
            case hQmA6 => exact fun _ _ _ h => h
            case hymA6 => exact Or.inl ⟨by rfl, by intro w_ hSw; (try dsimp only at hSw); first | (go_simp; done) | (go_simp; with_reducible rfl)⟩
            try simp only [Act.put, List.setIfInBounds_toArray, List.set_cons_zero, List.set_cons_succ]
            refine wpAnyH_take (i := 7) (oi := ?oimA7) (v := ?vmA7) ?himA7 (by kernel_rfl) (by kernel_rfl) (by kernel_rfl) ?hQmA7 ?hymA7 hHeld ?hmA7
            case himA7 => (simp only [List.getElem?_toArray, List.getElem?_cons_succ, List.getElem?_cons_zero]; rfl)
            case hQmA7 => exact fun _ _ _ h => h
            case hymA7 => exact Or.inl ⟨by rfl, by intro w_ hSw; (try dsimp only at hSw); first | (go_simp; done) | (go_simp; with_reducible rfl)⟩
            try simp only [Act.put, List.setIfInBounds_toArray, List.set_cons_zero, List.set_cons_succ]
            have hRd5 := Kd.R_drew HRD.out
            refine wpAnyH_ready (rs := [2, 4]) (by kernel_rfl) (by simp) ?_
            refine AllReadyH.cons (o := ?ocmAX2) ?hcmAX2 (fun K hK => ?hkmAX2) ?hmmAX
            case hcmAX2 => (simp only [List.getElem?_toArray, List.getElem?_cons_succ, List.getElem?_cons_zero]; rfl)
            case hkmAX2 =>
              go_simp
              go_at_call 67
              refine (slices_Clone_int_int.calls Ad cd d d _ (Kd.R_reads' hRd5).2.2 HLD.out HCL.out).mono ?_
              rintro e w6 ⟨v6, rfl, ho6, hb6⟩
              have hb6' : Below wr.heap.size wr w6 := below_step (below_drew (Below.refl _ _)) hb6
              have hIc := hCa.below hb6
              try dsimp only
              refine hK.out _ _ hIc (fun hHeld => ?_)
              clear hK K
              try simp only [Act.put, List.setIfInBounds_toArray, List.set_cons_zero, List.set_cons_succ]
              refine wpAnyH_ready (rs := [4]) (by kernel_rfl) (by simp) ?_
              refine AllReadyH.cons (o := ?ocmAX4) ?hcmAX4 (fun K hK => ?hkmAX4) AllReadyH.nil
              case hcmAX4 => (simp only [List.getElem?_toArray, List.getElem?_cons_succ, List.getElem?_cons_zero]; rfl)
              go_simp
              have hbl : Below w6.heap.size w6 (w6.alloc (.cells #[.int .i64 (x : Int)] 3)) := below_alloc (Below.refl _ _) _
              have hId := hIc.below hbl
              have hB7 : Below wr.heap.size wr (w6.alloc (.cells #[.int .i64 (x : Int)] 3)) := below_step hb6' hbl
              refine hK.out _ _ hId (fun hHeld => ?_)
              clear hK K
              try simp only [Act.put, List.setIfInBounds_toArray, List.set_cons_zero, List.set_cons_succ]
              have hcell : (w6.alloc (.cells #[.int .i64 (x : Int)] 3)).cell? ((⟨w6.heap.size, 0, none⟩ : Addr).add 0) = some (.int .i64 (x : Int)) := by rw [show ((⟨w6.heap.size, 0, none⟩ : Addr).add 0) = ⟨w6.heap.size, 0, none⟩ from rfl]; exact ch_cell (blk_new w6 _)
              have hR6 := Kd.R_below ho6 hbl
              have hbs : wr.heap.size ≤ wr.drew.heap.size := by
                have h3_ : wr.drew.heap.size = wr.heap.size := rfl
                (try rw [World.size_alloc]); omega
              refine wpAnyH_ready (rs := [5]) (by kernel_rfl) (by simp) ?_
              refine AllReadyH.cons (o := ?ocmAX5) ?hcmAX5 (fun K hK => ?hkmAX5) AllReadyH.nil
              case hcmAX5 => (simp only [List.getElem?_toArray, List.getElem?_cons_succ, List.getElem?_cons_zero]; rfl)
              refine app1_step (by rfl) (.tmp 25) (.tmp 27) (by rfl) (wr.drew.heap.size) v6 d (x : Int) ⟨w6.heap.size, 0, none⟩ rfl rfl hR6 hcell (by have := HBD.out; omega) (by first | exact hb6.size | (rw [World.size_alloc]; have := hb6.size; omega)) ?_
              intro v7 w7 ho7 hg7 hb7
              rw [← HDX.out] at ho7
              obtain ⟨A7, c7, e7⟩ := Kd.R_slice ho7
              subst e7
              have hB8 : Below wr.heap.size wr w7 := ⟨hb7.os.trans hB7.os, hb7.tape.trans hB7.tape, hb7.output.trans hB7.output, Nat.le_trans hB7.size hb7.size, fun k hk => (hb7.block k (by omega)).trans (hB7.block k hk)⟩
              have hIf := HCI.out.below hB8
              have hS8 := hI _ _ _ _ HIX.out hB8
              refine hK.out _ _ hIf (fun hHeld => ?_)
              clear hK K
              try simp only [Act.put, List.setIfInBounds_toArray, List.set_cons_zero, List.set_cons_succ]
              refine wpAnyH_ready (rs := [8]) (by kernel_rfl) (by simp) ?_
              refine AllReadyH.cons (o := ?ocmAX8) ?hcmAX8 (fun K hK => ?hkmAX8) AllReadyH.nil
              case hcmAX8 => (simp only [List.getElem?_toArray, List.getElem?_cons_succ, List.getElem?_cons_zero]; rfl)
              go_simp
              simp only [i64_w, E1.out]
              go_at_fn 66
              refine (IH dx (x + 1) sx s1 true w7 (wr.drew.heap.size) A7 c7 Ox hIf (row_new ho7 (fun i hi => Nat.lt_of_lt_of_le (hO _ _ _ HIX.out i hi) hbs)) (by first | exact Nat.le_trans hb6.size hb7.size | (have h1_ := hb6.size; have h2_ := hb7.size; rw [World.size_alloc] at h2_; omega) | (have h1_ := hb6.size; have h2_ := hb7.size; rw [World.size_alloc] at h1_ ⊢; omega)) hS8 HOX.out (by have h1_ := HQW.out; have h2_ := hB8.size; omega) HG.out (by have := HBD.out; have := HDL.out; omega) (by have := HN.out; omega)).mono ?_
              rintro e w8 ⟨rfl, O8, hi8, hf8, hn8⟩
              have hIg := hIf.fr hf8 HOX.out
              have hf9 : Fr Ox wr w8 := (Fr.of_below hB8).trans (Nw.refl _ _) hf8
              have hn9 : Nw Ox O8 wr := Nw.trans (Nw.refl _ _) hB8.size hn8
              try dsimp only
              refine hK.out _ _ hIg (fun hHeld => ?_)
              clear hK K
              try simp only [Act.put, List.setIfInBounds_toArray, List.set_cons_zero, List.set_cons_succ]
              refine wpAnyH_done (by kernel_rfl) ?_ _
              go_wp2
              go_ret
              exact ⟨rfl, O8, hi8, HFX.out.trans HNX.out hf9, HNX.out.trans HFX.out.size hn9⟩
            case hmmAX =>
              refine AllReadyH.cons (o := ?ocmAY4) ?hcmAY4 (fun K hK => ?hkmAY4) AllReadyH.nil
              case hcmAY4 => (simp only [List.getElem?_toArray, List.getElem?_cons_succ, List.getElem?_cons_zero]; rfl)
              go_simp
              have hbl : Below wr.drew.heap.size wr.drew (wr.drew.alloc (.cells #[.int .i64 (x : Int)] 3)) := below_alloc (Below.refl _ _) _
              have hIc := hCa.below hbl
              refine hK.out _ _ hIc (fun hHeld => ?_)
              clear hK K
              try simp only [Act.put, List.setIfInBounds_toArray, List.set_cons_zero, List.set_cons_succ]
              refine wpAnyH_ready (rs := [2]) (by kernel_rfl) (by simp) ?_
              refine AllReadyH.cons (o := ?ocmAY2) ?hcmAY2 (fun K hK => ?hkmAY2) AllReadyH.nil
              case hcmAY2 => (simp only [List.getElem?_toArray, List.getElem?_cons_succ, List.getElem?_cons_zero]; rfl)
              go_simp
              go_at_call 67
              refine (slices_Clone_int_int.calls Ad cd d d _ (Kd.R_reads' (Kd.R_below hRd5 hbl)).2.2 HLD.out HCL.out).mono ?_
              rintro e w6 ⟨v6, rfl, ho6, hb6⟩
              have hId := hIc.below hb6
              have hB7 : Below wr.heap.size wr w6 := below_step (below_step (below_drew (Below.refl _ _)) hbl) hb6
              try dsimp only
              refine hK.out _ _ hId (fun hHeld => ?_)
              clear hK K
              try simp only [Act.put, List.setIfInBounds_toArray, List.set_cons_zero, List.set_cons_succ]
              have hcell : w6.cell? ((⟨wr.drew.heap.size, 0, none⟩ : Addr).add 0) = some (.int .i64 (x : Int)) := by rw [show ((⟨wr.drew.heap.size, 0, none⟩ : Addr).add 0) = ⟨wr.drew.heap.size, 0, none⟩ from rfl]; exact ch_cell ((hb6.block _ (by rw [World.size_alloc]; omega)).trans (blk_new wr.drew _))
              have hR6 := ho6
              have hbs : wr.heap.size ≤ (wr.drew.alloc (.cells #[.int .i64 (x : Int)] 3)).heap.size := by
                have h3_ : wr.drew.heap.size = wr.heap.size := rfl
                (try rw [World.size_alloc]); omega
              refine wpAnyH_ready (rs := [5]) (by kernel_rfl) (by simp) ?_
              refine AllReadyH.cons (o := ?ocmAY5) ?hcmAY5 (fun K hK => ?hkmAY5) AllReadyH.nil
              case hcmAY5 => (simp only [List.getElem?_toArray, List.getElem?_cons_succ, List.getElem?_cons_zero]; rfl)
              refine app1_step (by rfl) (.tmp 25) (.tmp 27) (by rfl) ((wr.drew.alloc (.cells #[.int .i64 (x : Int)] 3)).heap.size) v6 d (x : Int) ⟨wr.drew.heap.size, 0, none⟩ rfl rfl hR6 hcell (by have := HBD.out; omega) (by first | exact hb6.size | (rw [World.size_alloc]; have := hb6.size; omega)) ?_
              intro v7 w7 ho7 hg7 hb7
              rw [← HDX.out] at ho7
              obtain ⟨A7, c7, e7⟩ := Kd.R_slice ho7
              subst e7
              have hB8 : Below wr.heap.size wr w7 := ⟨hb7.os.trans hB7.os, hb7.tape.trans hB7.tape, hb7.output.trans hB7.output, Nat.le_trans hB7.size hb7.size, fun k hk => (hb7.block k (by omega)).trans (hB7.block k hk)⟩
              have hIf := HCI.out.below hB8
              have hS8 := hI _ _ _ _ HIX.out hB8
              refine hK.out _ _ hIf (fun hHeld => ?_)
              clear hK K
              try simp only [Act.put, List.setIfInBounds_toArray, List.set_cons_zero, List.set_cons_succ]
              refine wpAnyH_ready (rs := [8]) (by kernel_rfl) (by simp) ?_
              refine AllReadyH.cons (o := ?ocmAY8) ?hcmAY8 (fun K hK => ?hkmAY8) AllReadyH.nil
              case hcmAY8 => (simp only [List.getElem?_toArray, List.getElem?_cons_succ, List.getElem?_cons_zero]; rfl)
              go_simp
              simp only [i64_w, E1.out]
              go_at_fn 66
              refine (IH dx (x + 1) sx s1 true w7 ((wr.drew.alloc (.cells #[.int .i64 (x : Int)] 3)).heap.size) A7 c7 Ox hIf (row_new ho7 (fun i hi => Nat.lt_of_lt_of_le (hO _ _ _ HIX.out i hi) hbs)) (by first | exact Nat.le_trans hb6.size hb7.size | (have h1_ := hb6.size; have h2_ := hb7.size; rw [World.size_alloc] at h2_; omega) | (have h1_ := hb6.size; have h2_ := hb7.size; rw [World.size_alloc] at h1_ ⊢; omega)) hS8 HOX.out (by have h1_ := HQW.out; have h2_ := hB8.size; omega) HG.out (by have := HBD.out; have := HDL.out; omega) (by have := HN.out; omega)).mono ?_
              rintro e w8 ⟨rfl, O8, hi8, hf8, hn8⟩
              have hIg := hIf.fr hf8 HOX.out
              have hf9 : Fr Ox wr w8 := (Fr.of_below hB8).trans (Nw.refl _ _) hf8
              have hn9 : Nw Ox O8 wr := Nw.trans (Nw.refl _ _) hB8.size hn8
              try dsimp only
              refine hK.out _ _ hIg (fun hHeld => ?_)
              clear hK K
              try simp only [Act.put, List.setIfInBounds_toArray, List.set_cons_zero, List.set_cons_succ]
              refine wpAnyH_done (by kernel_rfl) ?_ _
              go_wp2
              go_ret
              exact ⟨rfl, O8, hi8, HFX.out.trans HNX.out hf9, HNX.out.trans HFX.out.size hn9⟩
          | false =>
            have HL2 := Aside0.mk (show chL (fun x s => chF F n many m (d ++ [(x : Int)]) (x + 1) s) k1 (x + 1) s1 = some (b, s') by simpa using hl)
            clear hl
            go_upto_region 6 with fail
            refine wp_region_held_drew (S := ChI q g lb (n : Int) (many : Int)) (by kernel_rfl) hCa (fun hHeld => ?_)
            refine wpAnyH_take (i := 0) (oi := ?oimB0) (v := (.func (.func 66) #[] #[.pointer (some ⟨q + 1, 0, none⟩), .pointer (some ⟨q + 2, 0, none⟩), .pointer (some ⟨q, 0, none⟩), .pointer (some ⟨q + 3, 0, none⟩)])) ?himB0 (by kernel_rfl) (by kernel_rfl) (by kernel_rfl) ?hQmB0 ?hymB0 hHeld ?hmB0
            case himB0 => (simp only [List.getElem?_toArray, List.getElem?_cons_succ, List.getElem?_cons_zero]; rfl)
            case hQmB0 => exact fun _ _ _ h => h
            case hymB0 => exact Or.inl ⟨by rfl, by intro w_ hSw; have h_ := ch_cell (ChI.ca hSw); first | (go_simp; done) | (go_simp; with_reducible rfl)⟩
            try simp only [Act.put, List.setIfInBounds_toArray, List.set_cons_zero, List.set_cons_succ]
            refine wpAnyH_take (i := 1) (oi := ?oimB1) (v := ?vmB1) ?himB1 (by kernel_rfl) (by kernel_rfl) (by kernel_rfl) ?hQmB1 ?hymB1 hHeld ?hmB1
            case himB1 => (simp only [List.getElem?_toArray, List.getElem?_cons_succ, List.getElem?_cons_zero]; rfl)
            case hQmB1 => exact fun _ _ _ h => h
            case hymB1 => exact Or.inl ⟨by rfl, by intro w_ hSw; (try dsimp only at hSw); first | (go_simp; done) | (go_simp; with_reducible rfl)⟩
            try simp only [Act.put, List.setIfInBounds_toArray, List.set_cons_zero, List.set_cons_succ]
            refine wpAnyH_take (i := 3) (oi := ?oimB3) (v := ?vmB3) ?himB3 (by kernel_rfl) (by kernel_rfl) (by kernel_rfl) ?hQmB3 ?hymB3 hHeld ?hmB3
            case himB3 => (simp only [List.getElem?_toArray, List.getElem?_cons_succ, List.getElem?_cons_zero]; rfl)
            case hQmB3 => exact fun _ _ _ h => h
            case hymB3 => exact Or.inl ⟨by rfl, by intro w_ hSw; (try dsimp only at hSw); first | (go_simp; done) | (go_simp; with_reducible rfl)⟩
            try simp only [Act.put, List.setIfInBounds_toArray, List.set_cons_zero, List.set_cons_succ]
            refine wpAnyH_take (i := 6) (oi := ?oimB6) (v := ?vmB6) ?himB6 (by kernel_rfl) (by kernel_rfl) (by kernel_rfl) ?hQmB6 ?hymB6 hHeld ?hmB6
            case himB6 => (simp only [List.getElem?_toArray, List.getElem?_cons_succ, List.getElem?_cons_zero]; rfl)
            case hQmB6 => exact fun _ _ _ h => h
            case hymB6 => exact Or.inl ⟨by rfl, by intro w_ hSw; (try dsimp only at hSw); first | (go_simp; done) | (go_simp; with_reducible rfl)⟩
            try simp only [Act.put, List.setIfInBounds_toArray, List.set_cons_zero, List.set_cons_succ]
            refine wpAnyH_take (i := 7) (oi := ?oimB7) (v := ?vmB7) ?himB7 (by kernel_rfl) (by kernel_rfl) (by kernel_rfl) ?hQmB7 ?hymB7 hHeld ?hmB7
            case himB7 => (simp only [List.getElem?_toArray, List.getElem?_cons_succ, List.getElem?_cons_zero]; rfl)
            case hQmB7 => exact fun _ _ _ h => h
            case hymB7 => exact Or.inl ⟨by rfl, by intro w_ hSw; (try dsimp only at hSw); first | (go_simp; done) | (go_simp; with_reducible rfl)⟩
            try simp only [Act.put, List.setIfInBounds_toArray, List.set_cons_zero, List.set_cons_succ]
            have hRd5 := Kd.R_drew HRD.out
            refine wpAnyH_ready (rs := [2, 4]) (by kernel_rfl) (by simp) ?_
            refine AllReadyH.cons (o := ?ocmBX2) ?hcmBX2 (fun K hK => ?hkmBX2) ?hmmBX
            case hcmBX2 => (simp only [List.getElem?_toArray, List.getElem?_cons_succ, List.getElem?_cons_zero]; rfl)
            case hkmBX2 =>
              go_simp
              go_at_call 67
              refine (slices_Clone_int_int.calls Ad cd d d _ (Kd.R_reads' hRd5).2.2 HLD.out HCL.out).mono ?_
              rintro e w6 ⟨v6, rfl, ho6, hb6⟩
              have hb6' : Below wr.heap.size wr w6 := below_step (below_drew (Below.refl _ _)) hb6
              have hIc := hCa.below hb6
              try dsimp only
              refine hK.out _ _ hIc (fun hHeld => ?_)
              clear hK K
              try simp only [Act.put, List.setIfInBounds_toArray, List.set_cons_zero, List.set_cons_succ]
              refine wpAnyH_ready (rs := [4]) (by kernel_rfl) (by simp) ?_
              refine AllReadyH.cons (o := ?ocmBX4) ?hcmBX4 (fun K hK => ?hkmBX4) AllReadyH.nil
              case hcmBX4 => (simp only [List.getElem?_toArray, List.getElem?_cons_succ, List.getElem?_cons_zero]; rfl)
              go_simp
              have hbl : Below w6.heap.size w6 (w6.alloc (.cells #[.int .i64 (x : Int)] 3)) := below_alloc (Below.refl _ _) _
              have hId := hIc.below hbl
              have hB7 : Below wr.heap.size wr (w6.alloc (.cells #[.int .i64 (x : Int)] 3)) := below_step hb6' hbl
              refine hK.out _ _ hId (fun hHeld => ?_)
              clear hK K
              try simp only [Act.put, List.setIfInBounds_toArray, List.set_cons_zero, List.set_cons_succ]
              have hcell : (w6.alloc (.cells #[.int .i64 (x : Int)] 3)).cell? ((⟨w6.heap.size, 0, none⟩ : Addr).add 0) = some (.int .i64 (x : Int)) := by rw [show ((⟨w6.heap.size, 0, none⟩ : Addr).add 0) = ⟨w6.heap.size, 0, none⟩ from rfl]; exact ch_cell (blk_new w6 _)
              have hR6 := Kd.R_below ho6 hbl
              have hbs : wr.heap.size ≤ wr.drew.heap.size := by
                have h3_ : wr.drew.heap.size = wr.heap.size := rfl
                (try rw [World.size_alloc]); omega
              refine wpAnyH_ready (rs := [5]) (by kernel_rfl) (by simp) ?_
              refine AllReadyH.cons (o := ?ocmBX5) ?hcmBX5 (fun K hK => ?hkmBX5) AllReadyH.nil
              case hcmBX5 => (simp only [List.getElem?_toArray, List.getElem?_cons_succ, List.getElem?_cons_zero]; rfl)
              refine app1_step (by rfl) (.tmp 25) (.tmp 27) (by rfl) (wr.drew.heap.size) v6 d (x : Int) ⟨w6.heap.size, 0, none⟩ rfl rfl hR6 hcell (by have := HBD.out; omega) (by first | exact hb6.size | (rw [World.size_alloc]; have := hb6.size; omega)) ?_
              intro v7 w7 ho7 hg7 hb7
              rw [← HDX.out] at ho7
              obtain ⟨A7, c7, e7⟩ := Kd.R_slice ho7
              subst e7
              have hB8 : Below wr.heap.size wr w7 := ⟨hb7.os.trans hB7.os, hb7.tape.trans hB7.tape, hb7.output.trans hB7.output, Nat.le_trans hB7.size hb7.size, fun k hk => (hb7.block k (by omega)).trans (hB7.block k hk)⟩
              have hIf := HCI.out.below hB8
              have hS8 := hI _ _ _ _ HIX.out hB8
              refine hK.out _ _ hIf (fun hHeld => ?_)
              clear hK K
              try simp only [Act.put, List.setIfInBounds_toArray, List.set_cons_zero, List.set_cons_succ]
              refine wpAnyH_ready (rs := [8]) (by kernel_rfl) (by simp) ?_
              refine AllReadyH.cons (o := ?ocmBX8) ?hcmBX8 (fun K hK => ?hkmBX8) AllReadyH.nil
              case hcmBX8 => (simp only [List.getElem?_toArray, List.getElem?_cons_succ, List.getElem?_cons_zero]; rfl)
              go_simp
              simp only [i64_w, E1.out]
              go_at_fn 66
              refine (IH dx (x + 1) sx s1 false w7 (wr.drew.heap.size) A7 c7 Ox hIf (row_new ho7 (fun i hi => Nat.lt_of_lt_of_le (hO _ _ _ HIX.out i hi) hbs)) (by first | exact Nat.le_trans hb6.size hb7.size | (have h1_ := hb6.size; have h2_ := hb7.size; rw [World.size_alloc] at h2_; omega) | (have h1_ := hb6.size; have h2_ := hb7.size; rw [World.size_alloc] at h1_ ⊢; omega)) hS8 HOX.out (by have h1_ := HQW.out; have h2_ := hB8.size; omega) HG.out (by have := HBD.out; have := HDL.out; omega) (by have := HN.out; omega)).mono ?_
              rintro e w8 ⟨rfl, O8, hi8, hf8, hn8⟩
              have hIg := hIf.fr hf8 HOX.out
              have hf9 : Fr Ox wr w8 := (Fr.of_below hB8).trans (Nw.refl _ _) hf8
              have hn9 : Nw Ox O8 wr := Nw.trans (Nw.refl _ _) hB8.size hn8
              try dsimp only
              refine hK.out _ _ hIg (fun hHeld => ?_)
              clear hK K
              try simp only [Act.put, List.setIfInBounds_toArray, List.set_cons_zero, List.set_cons_succ]
              refine wpAnyH_done (by kernel_rfl) ?_ _
              go_wp2
              go_roundg k1
              case measure => omega
              case rel => exact ⟨x + 1, s1, O8, by first | rfl | rw [E1.out], ⟨by have := HK.out; omega, by have := HN.out; omega⟩, HL2, ⟨hIg⟩, ⟨row_fr HRD.out hf9 hn9⟩, ⟨hi8⟩, ⟨fun i h_ => (hn9 i h_).elim (HOX.out i) (fun h2_ => .inr (by have := HQW.out; omega))⟩, ⟨HFX.out.trans HNX.out hf9⟩, ⟨HNX.out.trans HFX.out.size hn9⟩⟩
            case hmmBX =>
              refine AllReadyH.cons (o := ?ocmBY4) ?hcmBY4 (fun K hK => ?hkmBY4) AllReadyH.nil
              case hcmBY4 => (simp only [List.getElem?_toArray, List.getElem?_cons_succ, List.getElem?_cons_zero]; rfl)
              go_simp
              have hbl : Below wr.drew.heap.size wr.drew (wr.drew.alloc (.cells #[.int .i64 (x : Int)] 3)) := below_alloc (Below.refl _ _) _
              have hIc := hCa.below hbl
              refine hK.out _ _ hIc (fun hHeld => ?_)
              clear hK K
              try simp only [Act.put, List.setIfInBounds_toArray, List.set_cons_zero, List.set_cons_succ]
              refine wpAnyH_ready (rs := [2]) (by kernel_rfl) (by simp) ?_
              refine AllReadyH.cons (o := ?ocmBY2) ?hcmBY2 (fun K hK => ?hkmBY2) AllReadyH.nil
              case hcmBY2 => (simp only [List.getElem?_toArray, List.getElem?_cons_succ, List.getElem?_cons_zero]; rfl)
              go_simp
              go_at_call 67
              refine (slices_Clone_int_int.calls Ad cd d d _ (Kd.R_reads' (Kd.R_below hRd5 hbl)).2.2 HLD.out HCL.out).mono ?_
              rintro e w6 ⟨v6, rfl, ho6, hb6⟩
              have hId := hIc.below hb6
              have hB7 : Below wr.heap.size wr w6 := below_step (below_step (below_drew (Below.refl _ _)) hbl) hb6
              try dsimp only
              refine hK.out _ _ hId (fun hHeld => ?_)
              clear hK K
              try simp only [Act.put, List.setIfInBounds_toArray, List.set_cons_zero, List.set_cons_succ]
              have hcell : w6.cell? ((⟨wr.drew.heap.size, 0, none⟩ : Addr).add 0) = some (.int .i64 (x : Int)) := by rw [show ((⟨wr.drew.heap.size, 0, none⟩ : Addr).add 0) = ⟨wr.drew.heap.size, 0, none⟩ from rfl]; exact ch_cell ((hb6.block _ (by rw [World.size_alloc]; omega)).trans (blk_new wr.drew _))
              have hR6 := ho6
              have hbs : wr.heap.size ≤ (wr.drew.alloc (.cells #[.int .i64 (x : Int)] 3)).heap.size := by
                have h3_ : wr.drew.heap.size = wr.heap.size := rfl
                (try rw [World.size_alloc]); omega
              refine wpAnyH_ready (rs := [5]) (by kernel_rfl) (by simp) ?_
              refine AllReadyH.cons (o := ?ocmBY5) ?hcmBY5 (fun K hK => ?hkmBY5) AllReadyH.nil
              case hcmBY5 => (simp only [List.getElem?_toArray, List.getElem?_cons_succ, List.getElem?_cons_zero]; rfl)
              refine app1_step (by rfl) (.tmp 25) (.tmp 27) (by rfl) ((wr.drew.alloc (.cells #[.int .i64 (x : Int)] 3)).heap.size) v6 d (x : Int) ⟨wr.drew.heap.size, 0, none⟩ rfl rfl hR6 hcell (by have := HBD.out; omega) (by first | exact hb6.size | (rw [World.size_alloc]; have := hb6.size; omega)) ?_
              intro v7 w7 ho7 hg7 hb7
              rw [← HDX.out] at ho7
              obtain ⟨A7, c7, e7⟩ := Kd.R_slice ho7
              subst e7
              have hB8 : Below wr.heap.size wr w7 := ⟨hb7.os.trans hB7.os, hb7.tape.trans hB7.tape, hb7.output.trans hB7.output, Nat.le_trans hB7.size hb7.size, fun k hk => (hb7.block k (by omega)).trans (hB7.block k hk)⟩
              have hIf := HCI.out.below hB8
              have hS8 := hI _ _ _ _ HIX.out hB8
              refine hK.out _ _ hIf (fun hHeld => ?_)
              clear hK K
              try simp only [Act.put, List.setIfInBounds_toArray, List.set_cons_zero, List.set_cons_succ]
              refine wpAnyH_ready (rs := [8]) (by kernel_rfl) (by simp) ?_
              refine AllReadyH.cons (o := ?ocmBY8) ?hcmBY8 (fun K hK => ?hkmBY8) AllReadyH.nil
              case hcmBY8 => (simp only [List.getElem?_toArray, List.getElem?_cons_succ, List.getElem?_cons_zero]; rfl)
              go_simp
              simp only [i64_w, E1.out]
              go_at_fn 66
              refine (IH dx (x + 1) sx s1 false w7 ((wr.drew.alloc (.cells #[.int .i64 (x : Int)] 3)).heap.size) A7 c7 Ox hIf (row_new ho7 (fun i hi => Nat.lt_of_lt_of_le (hO _ _ _ HIX.out i hi) hbs)) (by first | exact Nat.le_trans hb6.size hb7.size | (have h1_ := hb6.size; have h2_ := hb7.size; rw [World.size_alloc] at h2_; omega) | (have h1_ := hb6.size; have h2_ := hb7.size; rw [World.size_alloc] at h1_ ⊢; omega)) hS8 HOX.out (by have h1_ := HQW.out; have h2_ := hB8.size; omega) HG.out (by have := HBD.out; have := HDL.out; omega) (by have := HN.out; omega)).mono ?_
              rintro e w8 ⟨rfl, O8, hi8, hf8, hn8⟩
              have hIg := hIf.fr hf8 HOX.out
              have hf9 : Fr Ox wr w8 := (Fr.of_below hB8).trans (Nw.refl _ _) hf8
              have hn9 : Nw Ox O8 wr := Nw.trans (Nw.refl _ _) hB8.size hn8
              try dsimp only
              refine hK.out _ _ hIg (fun hHeld => ?_)
              clear hK K
              try simp only [Act.put, List.setIfInBounds_toArray, List.set_cons_zero, List.set_cons_succ]
              refine wpAnyH_done (by kernel_rfl) ?_ _
              go_wp2
              go_roundg k1
              case measure => omega
              case rel => exact ⟨x + 1, s1, O8, by first | rfl | rw [E1.out], ⟨by have := HK.out; omega, by have := HN.out; omega⟩, HL2, ⟨hIg⟩, ⟨row_fr HRD.out hf9 hn9⟩, ⟨hi8⟩, ⟨fun i h_ => (hn9 i h_).elim (HOX.out i) (fun h2_ => .inr (by have := HQW.out; omega))⟩, ⟨HFX.out.trans HNX.out hf9⟩, ⟨HNX.out.trans HFX.out.size hn9⟩⟩
        · obtain rfl : gk = 0 := by have := HK.out; omega
          have d1 : decide (x < n) = false := decide_eq_false hx
          have hl := HL.out
          simp only [chL] at hl
          have h' := Option.some.inj hl
          simp only [Prod.mk.injEq] at h'
          obtain ⟨rfl, rfl⟩ := h'
          clear hl
          go_wp2
          go_ret
          exact ⟨rfl, Ox, HIX.out, HFX.out, HNX.out⟩
set_option maxHeartbeats 16000000 in
set_option maxRecDepth 100000 in
theorem choose_calls {σ : Type} (g : Nat) (lb : Array Value) (eg : ∀ args w, (callFunc g args).run Try.prog w = .ok (.enter g args) w) (F : List Int → σ → Option (Bool × σ)) (I : σ → (Nat → Prop) → World → Prop)
    (hI : ∀ s O W W', I s O W → Below W.heap.size W W' → I s O W') (hO : ∀ s O W, I s O W → ∀ i, O i → i < W.heap.size) (ht : Steps Try.prog g lb F I) (n many : Nat) (hn : n ≤ 800) (hm : many ≤ 800) (s s' : σ) (b : Bool) (W : World) (O : Nat → Prop) (hs : I s O W) (h : chF F n many (many + 1) [] 0 s = some (b, s')) :
    Calls Try.prog 43 #[.int .i64 (n : Int), .int .i64 (many : Int), .func (.func g) #[] lb] W fun e w' => e = .returned (.tuple #[]) ∧ ∃ O', I s' O' w' ∧ Fr O W w' ∧ Nw O O' W := by
  have eg66 : ∀ args w, (callFunc 66 args).run Try.prog w = .ok (.enter 66 args) w := enters_of Try.func66 (by kernel_rfl) rfl
  obtain ⟨W4, hW4⟩ : ∃ W4, W4 = (((W.alloc (.cells #[.int .i64 (n : Int)] 3)).alloc (.cells #[.int .i64 (many : Int)] 3)).alloc (.cells #[.func (.func g) #[] lb] 40)).alloc (.cells #[.func (.func 66) #[] #[.pointer (some ⟨W.heap.size + 1, 0, none⟩), .pointer (some ⟨W.heap.size + 2, 0, none⟩), .pointer (some ⟨W.heap.size, 0, none⟩), .pointer (some ⟨W.heap.size + 3, 0, none⟩)]] 66) := ⟨_, rfl⟩
  have z1 := blk_new W (.cells #[.int .i64 (n : Int)] 3)
  have z2 := blk_new (W.alloc (.cells #[.int .i64 (n : Int)] 3)) (.cells #[.int .i64 (many : Int)] 3)
  have z3 := blk_new ((W.alloc (.cells #[.int .i64 (n : Int)] 3)).alloc (.cells #[.int .i64 (many : Int)] 3)) (.cells #[.func (.func g) #[] lb] 40)
  have z4 := blk_new (((W.alloc (.cells #[.int .i64 (n : Int)] 3)).alloc (.cells #[.int .i64 (many : Int)] 3)).alloc (.cells #[.func (.func g) #[] lb] 40)) (.cells #[.func (.func 66) #[] #[.pointer (some ⟨W.heap.size + 1, 0, none⟩), .pointer (some ⟨W.heap.size + 2, 0, none⟩), .pointer (some ⟨W.heap.size, 0, none⟩), .pointer (some ⟨W.heap.size + 3, 0, none⟩)]] 66)
  rw [World.size_alloc, World.size_alloc, World.size_alloc] at z4
  rw [World.size_alloc, World.size_alloc] at z3
  rw [World.size_alloc] at z2
  have hC : ChI W.heap.size g lb (n : Int) (many : Int) W4 := by
    rw [hW4]
    exact ⟨blk_alloc (blk_alloc (blk_alloc z1 _) _) _, blk_alloc (blk_alloc z2 _) _, blk_alloc z3 _, z4⟩
  have hB4 : Below W.heap.size W W4 := by rw [hW4]; exact below_alloc (below_alloc (below_alloc (below_alloc (Below.refl _ _) _) _) _) _
  have hs4 : W4.heap.size = W.heap.size + 4 := by rw [hW4]; simp only [World.size_alloc]
  have HC := Aside0.mk hC
  have HS4 := Aside0.mk hs4
  have HB4 := Aside0.mk hB4
  have HI := Aside0.mk (hI _ _ _ _ hs hB4)
  have HOL := Aside0.mk (hO _ _ _ hs)
  have H := Aside0.mk h
  clear h z1 z2 z3 z4 hC hs4 hB4 hs
  go_enter Try.func43, Try.ntmps43
  go_upto_region 3 with fail
  simp only [Nat.add_assoc, Nat.reduceAdd]
  rw [← hW4]
  clear hW4
  have q4 := ch_cell HC.out.ca
  go_wp2_with (first
    | ((with_reducible refine gate_dst (N := 9) rfl ?_); refine Kd.R_lit (Kd.int .i64) (w0 := W4) W4.heap.size 3 ?hg (N := 9) ?hd (xs := ([] : List Int)) (inner := []) (ok := fun _ => True) (okp := fun _ => True) ?hr ?hp (fun _ hk => hk) trivial (Below.refl _ _) (Nat.le_refl _) (by simp) ?_; (case hd => rfl); (case hg => rfl); (case hr => first | (go_simp; done) | (go_simp; rfl)); (case hp => exact (Reps.none _ _)); intro v9 w9 ho9 hb9 hg_ hnew_; clear hg_ hnew_; obtain ⟨A9, c9, e9⟩ := Kd.R_slice ho9; subst e9; have HO9 := Aside0.mk ho9; have HB9 := Aside0.mk hb9; clear ho9 hb9)
    | (go_at_fn 66; (refine (add_calls g lb eg F I hI hO ht W.heap.size n many (by omega) hm (many + 1) [] 0 s s' b _ W4.heap.size A9 c9 O (HC.out.below HB9.out) (row_new HO9.out (fun i hi => by have h1_ := HOL.out i hi; have h2_ := HS4.out; omega)) HB9.out.size (hI _ _ _ _ HI.out HB9.out) (fun i hi => .inl (HOL.out i hi)) (by have h1_ := HS4.out; have h2_ := HB9.out.size; omega) H.out (by simp; omega) (by omega)).mono ?_); rintro e w10 ⟨rfl, O10, hi10, hf10, hn10⟩; have HI10 := Aside0.mk hi10; have HF10 := Aside0.mk hf10; have HN10 := Aside0.mk hn10; clear hi10 hf10 hn10))
  refine bodyPost_end (results_none rfl _ _ _) rfl ?_
  have hb := below_step HB4.out HB9.out
  exact ⟨rfl, O10, HI10.out, (Fr.of_below hb).trans (Nw.refl _ _) HF10.out, Nw.trans (Nw.refl _ _) hb.size HN10.out⟩
theorem below_step' {w0 W W2 W3 : World} (h : Below w0.heap.size w0 W) (h2 : Below W.heap.size W W2) (h3 : Below w0.heap.size W2 W3) : Below w0.heap.size w0 W3 := by
  have h4 := below_step h h2
  exact ⟨h3.os.trans h4.os, h3.tape.trans h4.tape, h3.output.trans h4.output, Nat.le_trans h4.size h3.size, fun i hi => (h3.block i hi).trans (h4.block i hi)⟩
theorem mn_cell_of_two {w : World} {b e : Nat} {v0 v1 : Value} (h : w.heap[b]? = some (.cells #[v0, v1] e (0, 0))) : w.cell? ⟨b, 0, none⟩ = some v0 ∧ w.cell? ⟨b, 1, none⟩ = some v1 := by
  constructor <;> simp [World.cell?, h]
theorem mn_free_of_two {w : World} {b e : Nat} {v0 v1 : Value} (h : w.heap[b]? = some (.cells #[v0, v1] e (0, 0))) : w.frozen? ⟨b, 0, none⟩ = false ∧ w.frozen? ⟨b, 1, none⟩ = false := by
  constructor <;> simp [World.frozen?, h]
/-- A function value that tells F of lists, in worlds with S; it may lay blocks. -/
def TellsI (P : Program) (g : Nat) (lb : Array Value) (F : List Int → Option Int) (S : World → Prop) : Prop :=
  ∀ (W : World) (A : Option Addr) (c : Nat) (l : List Int) (r : Int), Kd.C (Kd.int .i64) W A l.length l → l.length ≤ c → F l = some r → S W → Calls P g (#[.slice A l.length c] ++ lb) W fun e w' => e = .returned (.int .i64 r) ∧ Below W.heap.size W w'
theorem TellsI.at_ {P : Program} {g : Nat} {lb : Array Value} {F : List Int → Option Int} {S : World → Prop} (h : TellsI P g lb F S) (W : World) (A : Option Addr) (c : Nat) (l : List Int) (r : Int) (hC : Kd.C (Kd.int .i64) W A l.length l) (hc : l.length ≤ c) (hF : F l = some r) (hW : S W) : Calls P g (#[.slice A l.length c] ++ lb) W fun e w' => e = .returned (.int .i64 r) ∧ Below W.heap.size W w' := h W A c l r hC hc hF hW
def TellsB (P : Program) (g : Nat) (lb : Array Value) (F : List Int → Option Bool) (S : World → Prop) : Prop :=
  ∀ (W : World) (A : Option Addr) (c : Nat) (l : List Int) (r : Bool), Kd.C (Kd.int .i64) W A l.length l → l.length ≤ c → F l = some r → S W → Calls P g (#[.slice A l.length c] ++ lb) W fun e w' => e = .returned (.bool r) ∧ Below W.heap.size W w'
theorem TellsB.at_ {P : Program} {g : Nat} {lb : Array Value} {F : List Int → Option Bool} {S : World → Prop} (h : TellsB P g lb F S) (W : World) (A : Option Addr) (c : Nat) (l : List Int) (r : Bool) (hC : Kd.C (Kd.int .i64) W A l.length l) (hc : l.length ≤ c) (hF : F l = some r) (hW : S W) : Calls P g (#[.slice A l.length c] ++ lb) W fun e w' => e = .returned (.bool r) ∧ Below W.heap.size W w' := h W A c l r hC hc hF hW
def meanL (F : List Int → Option Int) : List (List Int) → Int → Option Int
  | [], s => some s
  | o :: t, s => (F o).bind fun x => meanL F t (wrap64 (s + x))
theorem meanL_le {F G : List Int → Option Int} (h : ∀ l, LeO (F l) (G l)) : ∀ l s, LeO (meanL F l s) (meanL G l s)
  | [], _ => LeO.refl _
  | o :: t, s => LeO.bind (h o) fun _ => meanL_le h t _
def meanF (k : Nat) (F : List Int → Option Int) (n : Int) : Option (Int × Int) := (impl_allOrders.f k n).bind fun l => if l.length < 1000000 then (meanL F l 0).bind fun s => (impl_factorial.f k n).bind fun d => impl_fraction.f k s d else none
theorem meanF_le {k : Nat} {F G : List Int → Option Int} (h : ∀ l, LeO (F l) (G l)) (n : Int) : LeO (meanF k F n) (meanF (k + 1) G n) :=
  LeO.bind (impl_allOrders.mono _ _) fun _ => LeO.ite (LeO.bind (meanL_le h _ _) fun _ => LeO.bind (impl_factorial.mono _ _) fun _ => impl_fraction.mono _ _ _) (LeO.none _)
def rdL (l : List (List Int)) (i : Nat) : List Int := l.getD i []
theorem rdL_drop (l : List (List Int)) (i : Nat) (h : i < l.length) : l.drop i = rdL l i :: l.drop (i + 1) := by
  unfold rdL
  rw [List.drop_eq_getElem_cons h]
  simp [h]
theorem at_rows {w : World} {A : Option Addr} {n : Nat} {xs : List (List Int)} (h : Kd.C (Kd.slice 3 (Kd.int .i64)) w A n xs) (i : Nat) (h1 : i < n) : ∃ ad A0 c0, A = some ad ∧ w.cell? (ad.add i) = some (.slice A0 (rdL xs i).length c0) ∧ (rdL xs i).length ≤ c0 ∧ (Kd.int .i64).C w A0 (rdL xs i).length (rdL xs i) := by
  obtain ⟨ad, c, e, _, hK, hc0⟩ := Kd.C_get h ([] : List Int) (i : Int) (by omega) (by omega)
  rw [Int.toNat_natCast] at hK hc0
  have hc : ∀ j u, c[j]? = some u → w.cell? (ad.add (i * 1 + j)) = some u := hc0
  obtain ⟨A0, c0, rfl, l0, g0⟩ := hK
  exact ⟨ad, A0, c0, e, by have hq := hc 0 _ rfl; rwa [Nat.mul_one, Nat.add_zero] at hq, l0, g0⟩
set_option maxHeartbeats 8000000 in
set_option maxRecDepth 100000 in
theorem mean_calls (k : Nat) (g : Nat) (lb : Array Value) (eg : ∀ args w, (callFunc g args).run Try.prog w = .ok (.enter g args) w) (F : List Int → Option Int) (S : World → Prop) (hS : ∀ W W' : World, S W → Below W.heap.size W W' → S W')
    (ht : TellsI Try.prog g lb F S) (n : Int) (r1 r2 : Int) (w : World) (h : meanF k F n = some (r1, r2)) (h0 : S w) :
    Calls Try.prog 42 #[.int .i64 n, .func (.func g) #[] lb] w fun e w' => e = .returned (.agg #[.int .i64 r1, .int .i64 r2]) ∧ Below w.heap.size w w' := by
  obtain ⟨l, hl, h⟩ := Option.bind_eq_some_iff.1 h
  have hlen : l.length < 1000000 := by
    rcases Nat.lt_or_ge l.length 1000000 with h0 | h0
    · exact h0
    · rw [if_neg (by omega)] at h
      cases h
  rw [if_pos hlen] at h
  obtain ⟨s, hs, h⟩ := Option.bind_eq_some_iff.1 h
  obtain ⟨d, hd, h⟩ := Option.bind_eq_some_iff.1 h
  have hu := Try.underlying22
  have HL := Aside0.mk hl
  have HLEN := Aside0.mk hlen
  have HSUM := Aside0.mk hs
  have HD := Aside0.mk hd
  have HF := Aside0.mk h
  have HT := Aside0.mk ht
  have HS := Aside0.mk hS
  have H0 := Aside0.mk h0
  have HB0 := Aside0.mk (Below.refl w.heap.size w)
  clear hl hlen hs hd h ht hS h0
  go_enter Try.func42, Try.ntmps42
  go_wp2_with (first
    | (go_at_call 63; (refine (impl_allOrders.calls k n l _ HL.out).mono ?_); rintro e w6 ⟨v6, rfl, ho, hb⟩; have ho' := Kd.S_R ho; obtain ⟨A6, c6, e6⟩ := Kd.R_slice ho'; subst e6; have HO := Aside0.mk (Kd.R_reads' ho').2.2; have HB := Aside0.mk hb; clear ho ho' hb))
  have HX : Aside0 (w6.heap[w.heap.size]? = some (.cells #[.int .i64 0, .int .i64 0] 22 (0, 0))) := ⟨(HB.out.block _ (by rw [World.size_alloc]; omega)).trans (blk_new w _)⟩
  have HB6 := Aside0.mk (below_step (below_alloc HB0.out _) HB.out)
  clear HB
  go_loopg [5, 11] l.length (fun kq v5 v11 w' => ∃ (i : Nat) (q : Int), v5 = .int .i64 q ∧ v11 = .int .i64 (i : Int) ∧ Aside0 (i + kq = l.length) ∧ Aside0 (meanL F (l.drop i) q = some s) ∧ Aside0 (w'.heap[w.heap.size]? = some (.cells #[.int .i64 0, .int .i64 0] 22 (0, 0))) ∧ Aside0 (Kd.C (Kd.slice 3 (Kd.int .i64)) w' A6 l.length l) ∧ Aside0 (Below w.heap.size w w'))
  case atStart => exact ⟨0, 0, rfl, rfl, ⟨by omega⟩, HSUM, HX, HO, HB6⟩
  case round =>
    clear HO HB6 HX HSUM
    obtain ⟨i, q, rfl, rfl, HK, HSUM, HX, HO, HB⟩ := hrel
    by_cases hi : i < l.length
    · obtain ⟨k1, hk1⟩ : ∃ k1, gk = k1 + 1 := ⟨gk - 1, by have := HK.out; omega⟩
      subst hk1
      have hd0 : decide (0 ≤ (i : Int)) = true := decide_eq_true (by omega)
      have hd1 : decide (i < l.length) = true := decide_eq_true hi
      have hsum := HSUM.out
      rw [rdL_drop l i hi] at hsum
      obtain ⟨x, hx, hsum⟩ := Option.bind_eq_some_iff.1 hsum
      obtain ⟨ad, A0, c0, eA, hcell, hlc, hC⟩ := at_rows HO.out i hi
      subst eA
      have HFX := Aside0.mk hx
      have HSUM2 := Aside0.mk hsum
      have HLC := Aside0.mk hlc
      have HC := Aside0.mk hC
      have E1 := Aside0.mk (show wrap64 ((i : Int) + 1) = ((i + 1 : Nat) : Int) by have := HLEN.out; unfold wrap64; omega)
      clear hx hsum hlc hC HSUM
      generalize rdL l i = o at hcell HFX HLC HC
      go_wp2_with (go_at_fn g; (with_reducible refine (HT.out.at_ _ A0 c0 o x ?_ HLC.out HFX.out ?_).mono ?_); (first | exact HC.out | exact Kd.C_drewN HC.out _ | exact Kd.C_drew HC.out); (exact HS.out _ _ H0.out (by repeat (first | exact HB.out | apply pw_below_drewN | apply below_drew1))); rintro e w7 ⟨rfl, hb⟩; have HB7 := Aside0.mk (below_step HB.out hb); have HX7 := Aside0.mk ((hb.block _ (lt_of_block HX.out)).trans HX.out); have HO7 := Aside0.mk (Kd.C_below HO.out hb); clear hb)
      go_roundg k1
      case measure => omega
      case rel => exact ⟨i + 1, wrap64 (q + x), rfl, by rw [E1.out], ⟨by have := HK.out; omega⟩, HSUM2, HX7, HO7, HB7⟩
    · obtain rfl : i = l.length := by have := HK.out; omega
      have hs := HSUM.out
      rw [List.drop_length] at hs
      obtain rfl := Option.some.inj hs
      have fx := (mn_free_of_two HX.out).1
      have fx1 := (mn_free_of_two HX.out).2
      clear hs HSUM
      go_wp2_with (first
        | (go_at_call 65; (with_reducible refine (impl_factorial.calls k _ d _ HD.out).mono ?_); rintro e w8 ⟨rfl, ⟨nd, rfl⟩⟩)
        | (go_at_call 64; (with_reducible refine (impl_fraction.calls k _ _ r1 r2 _ HF.out).mono ?_); rintro e w9 ⟨rfl, hb⟩; have HB9 := Aside0.mk (below_step HB.out (show Below wr.heap.size wr w9 from ⟨hb.os, hb.tape, hb.output, hb.size, hb.block⟩)); have HX9 := Aside0.mk ((hb.block _ (lt_of_block HX.out)).trans HX.out); have c0 := (mn_cell_of_two HX9.out).1; have c1 := (mn_cell_of_two HX9.out).2; have f0 := (mn_free_of_two HX9.out).1; have f1 := (mn_free_of_two HX9.out).2; clear hb))
      have g0 := blk_put HX9.out 0 (.int .i64 r1) rfl
      have g1 := blk_put g0 1 (.int .i64 r2) rfl
      refine bodyPost_ret (v := .agg #[.int .i64 r1, .int .i64 r2]) ?_ rfl ?_
      · exact results_single (r := .cell 4 22) rfl (.cell w.heap.size 22 #[.int .i64 r1, .int .i64 r2] (0, 0) _ rfl g1 hu rfl (by kernel_rfl) .nil)
      · exact ⟨rfl, below_set (below_set HB9.out (Nat.le_refl _)) (Nat.le_refl _)⟩
/-- The mean, if so many are drawn. -/
def drawnF (k : Nat) (F : List Int → Option Int) (n : Int) (right : Bool) : Option (Int × Int × Bool) := (impl_isDrawn.f n).bind fun t => if (t && right) = true then (meanF k F n).bind fun r => some (r.1, r.2, true) else some (0, 0, false)
theorem drawnF_le {k : Nat} {F G : List Int → Option Int} (h : ∀ l, LeO (F l) (G l)) (n : Int) (right : Bool) : LeO (drawnF k F n right) (drawnF (k + 1) G n right) :=
  LeO.bind (LeO.refl _) fun _ => LeO.ite (LeO.bind (meanF_le h n) fun _ => LeO.refl _) (LeO.refl _)
set_option maxHeartbeats 8000000 in
set_option maxRecDepth 100000 in
theorem drawnMean_calls (k : Nat) (g : Nat) (lb : Array Value) (eg : ∀ args w, (callFunc g args).run Try.prog w = .ok (.enter g args) w) (F : List Int → Option Int) (S : World → Prop) (hS : ∀ W W' : World, S W → Below W.heap.size W W' → S W')
    (ht : TellsI Try.prog g lb F S) (n : Int) (right : Bool) (r1 r2 : Int) (r3 : Bool) (w : World) (h : drawnF k F n right = some (r1, r2, r3)) (h0 : S w) :
    Calls Try.prog 20 #[.int .i64 n, .bool right, .func (.func g) #[] lb] w fun e w' => e = .returned (.tuple #[.agg #[.int .i64 r1, .int .i64 r2], .bool r3]) ∧ Below w.heap.size w w' := by
  obtain ⟨t, ht1, h⟩ := Option.bind_eq_some_iff.1 h
  have hu := Try.underlying22
  have HT1 := Aside0.mk ht1
  have HT := Aside0.mk ht
  have HS := Aside0.mk hS
  have H0 := Aside0.mk h0
  have HB0 := Aside0.mk (below_alloc (Below.refl w.heap.size w) (.cells #[.int .i64 0, .int .i64 0] 22))
  have HX := Aside0.mk (blk_new w (.cells #[.int .i64 0, .int .i64 0] 22))
  clear ht1 ht hS h0
  by_cases hc : (t && right) = true
  · rw [if_pos hc] at h
    obtain ⟨⟨q1, q2⟩, hm, h⟩ := Option.bind_eq_some_iff.1 h
    have h' := Option.some.inj h
    simp only [Prod.mk.injEq] at h'
    obtain ⟨rfl, rfl, rfl⟩ := h'
    have HM := Aside0.mk hm
    simp only [Bool.and_eq_true] at hc
    obtain ⟨rfl, rfl⟩ := hc
    clear h hm
    have fx := (mn_free_of_two HX.out).1
    have fx1 := (mn_free_of_two HX.out).2
    go_enter Try.func20, Try.ntmps20
    go_wp2_with (first
      | (go_at_call 41; (with_reducible refine (impl_isDrawn.calls n true _ HT1.out).mono ?_); rintro e w6 ⟨rfl, ⟨nd, rfl⟩⟩)
      | (go_at_call 42; (refine (mean_calls k g lb eg F S HS.out HT.out n q1 q2 _ HM.out ?_).mono ?_); (exact HS.out _ _ H0.out (by repeat (first | exact HB0.out | apply pw_below_drewN | apply below_drew1))); rintro e w7 ⟨rfl, hb⟩; have HB7 := Aside0.mk (below_step (pw_below_drewN HB0.out _) hb); have HX7 := Aside0.mk ((hb.block _ (lt_of_block HX.out)).trans HX.out); have c0 := (mn_cell_of_two HX7.out).1; have c1 := (mn_cell_of_two HX7.out).2; have f0 := (mn_free_of_two HX7.out).1; have f1 := (mn_free_of_two HX7.out).2; clear hb))
    have g0 := blk_put HX7.out 0 (.int .i64 q1) rfl
    have g1 := blk_put g0 1 (.int .i64 q2) rfl
    refine bodyPost_ret (v := .tuple #[.agg #[.int .i64 q1, .int .i64 q2], .bool true]) ?_ rfl ?_
    · exact results_list (rs := [.cell 6 22, .tmp 7]) rfl (by simp) (.cell w.heap.size 22 #[.int .i64 q1, .int .i64 q2] (0, 0) _ rfl g1 hu rfl (by kernel_rfl) (.tmp .nil))
    · exact ⟨rfl, below_set (below_set HB7.out (Nat.le_refl _)) (Nat.le_refl _)⟩
  · rw [if_neg hc] at h
    have h' := Option.some.inj h
    simp only [Prod.mk.injEq] at h'
    obtain ⟨rfl, rfl, rfl⟩ := h'
    have c0 := (mn_cell_of_two HX.out).1
    have c1 := (mn_cell_of_two HX.out).2
    have f0 := (mn_free_of_two HX.out).1
    have f1 := (mn_free_of_two HX.out).2
    clear h
    cases t with
    | false =>
      clear hc
      go_enter Try.func20, Try.ntmps20
      go_wp2_with (go_at_call 41; (with_reducible refine (impl_isDrawn.calls n false _ HT1.out).mono ?_); rintro e w6 ⟨rfl, ⟨nd, rfl⟩⟩)
      have g0 := blk_put (w := (w.alloc (.cells #[.int .i64 0, .int .i64 0] 22)).drewN nd) HX.out 0 (.int .i64 0) rfl
      have g1 := blk_put g0 1 (.int .i64 0) rfl
      refine bodyPost_ret (v := .tuple #[.agg #[.int .i64 0, .int .i64 0], .bool false]) ?_ rfl ?_
      · exact results_list (rs := [.cell 6 22, .tmp 7]) rfl (by simp) (.cell w.heap.size 22 #[.int .i64 0, .int .i64 0] (0, 0) _ rfl g1 hu rfl (by kernel_rfl) (.tmp .nil))
      · exact ⟨rfl, below_set (below_set (pw_below_drewN HB0.out _) (Nat.le_refl _)) (Nat.le_refl _)⟩
    | true =>
      cases right with
      | true => exact absurd rfl hc
      | false =>
        clear hc
        go_enter Try.func20, Try.ntmps20
        go_wp2_with (go_at_call 41; (with_reducible refine (impl_isDrawn.calls n true _ HT1.out).mono ?_); rintro e w6 ⟨rfl, ⟨nd, rfl⟩⟩)
        have g0 := blk_put (w := (w.alloc (.cells #[.int .i64 0, .int .i64 0] 22)).drewN nd) HX.out 0 (.int .i64 0) rfl
        have g1 := blk_put g0 1 (.int .i64 0) rfl
        refine bodyPost_ret (v := .tuple #[.agg #[.int .i64 0, .int .i64 0], .bool false]) ?_ rfl ?_
        · exact results_list (rs := [.cell 6 22, .tmp 7]) rfl (by simp) (.cell w.heap.size 22 #[.int .i64 0, .int .i64 0] (0, 0) _ rfl g1 hu rfl (by kernel_rfl) (.tmp .nil))
        · exact ⟨rfl, below_set (below_set (pw_below_drewN HB0.out _) (Nat.le_refl _)) (Nat.le_refl _)⟩
/-- What longest's closure does with a list of places: a sorted choice goes behind the others. -/
def rsF (k : Nat) (l : List Int) (places : List Int) (xs : List (List Int)) : Option (Bool × List (List Int)) := if xs.length < 100000 then (impl_at.f k l places).bind fun own => (impl_isSorted.f k own).bind fun b => some (false, if b = true then xs ++ [own] else xs) else none
/-- The worlds in which longest's cells lie: the order at bo, its test behind it, the list at bl. -/
structure LgI (w1 : World) (A : Option Addr) (c : Nat) (l : List Int) (bo bl : Nat) (xs : List (List Int)) (O : Nat → Prop) (W : World) : Prop where
  be : Below w1.heap.size w1 W
  hb : w1.heap.size ≤ bl
  co : w1.heap[bo]? = some (.cells #[.slice A l.length c] 36 (0, 0))
  cs : w1.heap[bo + 1]? = some (.cells #[.func (.func 23) #[] #[]] 40 (0, 0))
  hC : Kd.C (Kd.int .i64) w1 A l.length l
  hc : l.length ≤ c
  hv : ∃ v, W.heap[bl]? = some (.cells #[v] 27 (0, 0)) ∧ Kd.R (Kd.slice 3 (Kd.int .i64)) 36 W w1.heap.size (fun _ => True) v xs ∧ ∀ i, O i ↔ i = bl ∨ v.ownBlock = some i
section
variable {w1 W W2 : World} {A : Option Addr} {c bo bl : Nat} {l : List Int} {xs : List (List Int)} {O : Nat → Prop}
theorem LgI.below (h : LgI w1 A c l bo bl xs O W) (hb : Below W.heap.size W W2) : LgI w1 A c l bo bl xs O W2 := by
  obtain ⟨v, h1, h2, h3⟩ := h.hv
  exact ⟨below_step h.be hb, h.hb, h.co, h.cs, h.hC, h.hc, v, (hb.block _ (lt_of_block h1)).trans h1, Kd.R_below h2 hb, h3⟩
theorem LgI.lt (h : LgI w1 A c l bo bl xs O W) : ∀ i, O i → i < W.heap.size := by
  obtain ⟨v, h1, h2, h3⟩ := h.hv
  intro i hi
  rcases (h3 i).1 hi with rfl | hi
  · exact lt_of_block h1
  · exact Kd.R_lt h2 i hi
end
set_option maxHeartbeats 8000000 in
set_option maxRecDepth 100000 in
theorem longest1_steps (k : Nat) (w1 : World) (A : Option Addr) (c : Nat) (l : List Int) (bo bl : Nat) : Steps Try.prog 44 #[.pointer (some ⟨bo, 0, none⟩), .pointer (some ⟨bo + 1, 0, none⟩), .pointer (some ⟨bl, 0, none⟩)] (rsF k l) (LgI w1 A c l bo bl) := by
  intro W Ap cp p xs xs' b O hCp hcp hlp hF hI
  show Calls Try.prog 44 #[.slice Ap p.length cp, .pointer (some ⟨bo, 0, none⟩), .pointer (some ⟨bo + 1, 0, none⟩), .pointer (some ⟨bl, 0, none⟩)] W _
  have eg23 : ∀ args w, (callFunc 23 args).run Try.prog w = .ok (.enter 23 args) w := enters_of Try.func23 (by kernel_rfl) rfl
  unfold rsF at hF
  by_cases hx : xs.length < 100000
  · rw [if_pos hx] at hF
    obtain ⟨own, hown, hF⟩ := Option.bind_eq_some_iff.1 hF
    obtain ⟨t, ht, hF⟩ := Option.bind_eq_some_iff.1 hF
    have h' := Option.some.inj hF
    simp only [Prod.mk.injEq] at h'
    obtain ⟨rfl, hxs⟩ := h'
    have HI := Aside0.mk hI
    have HX := Aside0.mk hx
    have HOWN := Aside0.mk hown
    have HTT := Aside0.mk ht
    have HCP := Aside0.mk hCp
    have HLP := Aside0.mk hcp
    have q1 : W.cell? ⟨bo, 0, none⟩ = some (.slice A l.length c) := ch_cell ((hI.be.block _ (lt_of_block hI.co)).trans hI.co)
    have q2 : W.cell? ⟨bo + 1, 0, none⟩ = some (.func (.func 23) #[] #[]) := ch_cell ((hI.be.block _ (lt_of_block hI.cs)).trans hI.cs)
    have HB0 := Aside0.mk (Below.refl W.heap.size W)
    clear hF hI hx hown ht hCp hcp hlp
    cases t with
    | false =>
      rw [if_neg Bool.false_ne_true] at hxs
      subst hxs
      go_enter Try.func44, Try.ntmps44
      go_wp2_with (first
        | (go_at_call 45; (refine (impl_at.calls k A c l Ap cp p own _ (Kd.C_below HI.out.hC HI.out.be) HI.out.hc HCP.out HLP.out HOWN.out).mono ?_); rintro e w5 ⟨v5, rfl, ho, hb⟩; have q3 := (hb.cell (World.block_lt_of_cell? _ _ q2)).trans q2; obtain ⟨A5, c5, e5⟩ := Kd.R_slice ho; subst e5; have HO5 := Aside0.mk ho; have HB5 := Aside0.mk hb; clear ho hb)
        | (go_at_fn 23; (refine (impl_isSorted.calls k A5 c5 own false _ (Kd.R_reads' HO5.out).2.2 (Kd.R_reads' HO5.out).2.1 HTT.out).mono ?_); rintro e w6 ⟨rfl, hd⟩; have HB6 := Aside0.mk (below_step HB5.out (Drawn0.below hd)); clear hd))
      go_ret
      exact ⟨rfl, O, HI.out.below HB6.out, Fr.of_below HB6.out, Nw.refl _ _⟩
    | true =>
      rw [if_pos rfl] at hxs
      obtain ⟨v, hv1, hv2, hv3⟩ := HI.out.hv
      obtain ⟨Av, cv, ev⟩ := Kd.R_slice hv2
      subst ev
      have HV1 := Aside0.mk hv1
      have HV2 := Aside0.mk hv2
      have HV3 := Aside0.mk hv3
      have HXS := Aside0.mk hxs
      have q4 := ch_cell hv1
      have q5 := blk_frozen hv1 0
      clear hv1 hv2 hv3 hxs
      go_enter Try.func44, Try.ntmps44
      go_wp2_with (first
        | (go_at_call 45; (refine (impl_at.calls k A c l Ap cp p own _ (Kd.C_below HI.out.hC HI.out.be) HI.out.hc HCP.out HLP.out HOWN.out).mono ?_); rintro e w5 ⟨v5, rfl, ho, hb⟩; have q3 := (hb.cell (World.block_lt_of_cell? _ _ q2)).trans q2; obtain ⟨A5, c5, e5⟩ := Kd.R_slice ho; subst e5; have HO5 := Aside0.mk ho; have HB5 := Aside0.mk hb; clear ho hb)
        | (go_at_fn 23; (refine (impl_isSorted.calls k A5 c5 own true _ (Kd.R_reads' HO5.out).2.2 (Kd.R_reads' HO5.out).2.1 HTT.out).mono ?_); rintro e w6 ⟨rfl, hd⟩; have HB6 := Aside0.mk (below_step HB5.out (Drawn0.below hd)); have HO6 := Aside0.mk (Kd.R_lower (Kd.R_below HO5.out (Drawn0.below hd)) (below_size HI.out.be)); have HV6 := Aside0.mk ((HB6.out.block _ (lt_of_block HV1.out)).trans HV1.out); have HR6 := Aside0.mk (Kd.R_below HV2.out HB6.out); have q6 := ch_cell HV6.out; clear hd)
        | ((with_reducible refine gate_builtin (b := .append) (xs := #[.tmp 13, .tmp 15]) rfl ?_); at_builtin; refine Kd.R_append (Kd.slice 3 (Kd.int .i64)) (w0 := w6) w1.heap.size rfl (.tmp 13) (.tmp 15) 27 36 (.slice none 0 0) 24 rfl Try.underlying27 info36 rfl (by decide) (by omega) (.slice Av xs.length cv) xs own [.slice A5 own.length c5] (fun _ => True) (fun k_ => some k_ = (.slice A5 own.length c5 : Value).ownBlock) rfl rfl ?aP ?aK ?aF ?aO ?aB ?aS ?aL ?_; (case aK => exact (fun k_ hk_ => ⟨trivial, ((Kd.R_apart' HO6.out (Kd.R_typed HR6.out) (by decide)).1 k_ hk_.symm).2⟩)); (case aP => exact Kd.M_row (Kd.R_tight rfl HO6.out)); (case aF => exact (fun _ _ => trivial)); (case aO => exact HR6.out); (case aB => exact (Below.refl _ _)); (case aS => exact (below_size (below_step HI.out.be HB6.out))); (case aL => have := HX.out; omega); intro v7 w7 ho hb hg hat; rw [HXS.out] at ho; obtain ⟨A7, c7, e7⟩ := Kd.R_slice ho; subst e7; have hV7 := (hg.block bl (lt_of_block HV6.out) (Kd.R_ne HR6.out HV6.out (by decide))).trans HV6.out; have q7 := ch_cell hV7; have q8 := blk_frozen hV7 0; have HV7 := Aside0.mk hV7; have HO7 := Aside0.mk ho; have HG7 := Aside0.mk hg; have HAT := Aside0.mk hat; have HB7 := Aside0.mk hb; clear ho hb hg hat hV7))
      go_ret
      have hw7 : Fr O W w7 := ⟨HB7.out.os.trans HB6.out.os, HB7.out.tape.trans HB6.out.tape, HB7.out.output.trans HB6.out.output, Nat.le_trans HB6.out.size HB7.out.size, fun i hi ho => (HG7.out.block i (Nat.lt_of_lt_of_le hi HB6.out.size) (fun e_ => ho ((HV3.out i).2 (.inr e_.symm)))).trans (HB6.out.block i hi)⟩
      have hbl : O bl := (HV3.out bl).2 (.inl rfl)
      refine ⟨rfl, fun i => i = bl ∨ (Value.slice A7 xs'.length c7).ownBlock = some i, ⟨below_set (below_step' HI.out.be HB6.out HB7.out) HI.out.hb, HI.out.hb, HI.out.co, HI.out.cs, HI.out.hC, HI.out.hc, _, blk_put HV7.out 0 (.slice A7 xs'.length c7) rfl, Kd.R_set HO7.out HV7.out (by decide) 0 _, fun _ => Iff.rfl⟩, ⟨hw7.os, hw7.tape, hw7.output, by simpa [World.setCell] using hw7.size, fun i hi ho => (Below.heap_setCell _ ⟨bl, 0, none⟩ _ i (by show i ≠ bl; rintro rfl; exact ho hbl)).trans (hw7.block i hi ho)⟩, ?_⟩
      rintro i (rfl | hi)
      · exact .inl hbl
      · rcases HAT.out with h_ | ⟨b_, h1_, h2_⟩
        · exact .inl ((HV3.out i).2 (.inr (by rw [← h_]; exact hi)))
        · rw [h1_] at hi
          obtain rfl : b_ = i := Option.some.inj hi
          exact .inr (Nat.le_trans HB6.out.size h2_)
  · rw [if_neg hx] at hF
    cases hF
/-- The least of some lists: the first one of these. -/
def minL (C : List Int → List Int → Option Int) : List (List Int) → List Int → Option (List Int)
  | [], b => some b
  | x :: t, b => (C x b).bind fun c => if c < 0 then minL C t x else minL C t b
theorem minL_le {C D : List Int → List Int → Option Int} (h : ∀ a b, LeO (C a b) (D a b)) : ∀ t b, LeO (minL C t b) (minL D t b)
  | [], _ => LeO.refl _
  | x :: t, b => LeO.bind (h x b) fun _ => LeO.ite (minL_le h t x) (minL_le h t b)
def minF (k : Nat) (xs : List (List Int)) : Option (List Int) := if 0 < xs.length ∧ xs.length < 1000000 then minL (slices_Compare_int_int.f k) (xs.drop 1) (rdL xs 0) else none
set_option maxHeartbeats 8000000 in
set_option maxRecDepth 100000 in
theorem MinFunc_calls (k : Nat) (A : Option Addr) (c : Nat) (xs : List (List Int)) (r : List Int) (w : World) (hC : Kd.C (Kd.slice 3 (Kd.int .i64)) w A xs.length xs) (h : minF k xs = some r) :
    Calls Try.prog 46 #[.slice A xs.length c, .func (.func 47) #[] #[]] w fun e w' => (∃ Ar cr, e = .returned (.slice Ar r.length cr)) ∧ Below w.heap.size w w' := by
  have eg47 : ∀ args w, (callFunc 47 args).run Try.prog w = .ok (.enter 47 args) w := enters_of Try.func47 (by kernel_rfl) rfl
  unfold minF at h
  by_cases hn : 0 < xs.length ∧ xs.length < 1000000
  · rw [if_pos hn] at h
    obtain ⟨ad, A0, c0, eA, hcell0, hl0, hC0⟩ := at_rows hC 0 hn.1
    subst eA
    have hd0 : decide ((xs.length : Int) < 1) = false := decide_eq_false (by omega)
    have p0 := eq_true hn.1
    have H := Aside0.mk h
    have HN := Aside0.mk hn
    have HC := Aside0.mk hC
    have HC0 := Aside0.mk hC0
    have HL0 := Aside0.mk hl0
    have HB := Aside0.mk (Below.refl w.heap.size w)
    have E1 := Aside0.mk (rfl : (1 : Nat) = 1)
    have e0 : ad.add 0 = ad := by first | (simp; done) | (go_simp; done) | (unfold Addr.add; split <;> simp_all)
    rw [e0] at hcell0
    generalize rdL xs 0 = b0 at hcell0 HC0 HL0 H
    clear h hC hC0 hl0 hn
    go_enter Try.func46, Try.ntmps46
    go_wp2
    go_loopg [5, 6] (xs.length - 1) (fun kq v5 v6 wr => ∃ (i : Nat) (b : List Int) (Ab : Option Addr) (cb : Nat), v5 = .slice Ab b.length cb ∧ v6 = .int .i64 (i : Int) ∧ Aside0 (i + kq = xs.length ∧ 0 < i) ∧ Aside0 (minL (slices_Compare_int_int.f k) (xs.drop i) b = some r) ∧ Aside0 (Kd.C (Kd.slice 3 (Kd.int .i64)) wr (some ad) xs.length xs) ∧ Aside0 (Kd.C (Kd.int .i64) wr Ab b.length b) ∧ Aside0 (b.length ≤ cb) ∧ Aside0 (Below w.heap.size w wr))
    case atStart => exact ⟨1, b0, A0, c0, rfl, rfl, ⟨by have := HN.out; omega, by omega⟩, H, HC, HC0, HL0, HB⟩
    case round =>
      clear H HC HC0 HL0 HB hcell0 hd0
      obtain ⟨i, b, Ab, cb, rfl, rfl, HK, HL, HC, HCB, HLB, HB⟩ := hrel
      by_cases hi : i < xs.length
      · obtain ⟨k1, hk1⟩ : ∃ k1, gk = k1 + 1 := ⟨gk - 1, by have := HK.out; omega⟩
        subst hk1
        have hd1 : decide (i < xs.length) = true := decide_eq_true hi
        have p1 := eq_true (show (0 : Int) ≤ (i : Int) by omega)
        have hl := HL.out
        rw [rdL_drop xs i hi] at hl
        obtain ⟨cc, hcc, hl⟩ := Option.bind_eq_some_iff.1 hl
        obtain ⟨ad2, A1, c1, e2, hcell, hl1, hC1⟩ := at_rows HC.out i hi
        injection e2 with e2
        subst e2
        have HCC := Aside0.mk hcc
        have HC1 := Aside0.mk hC1
        have HL1 := Aside0.mk hl1
        have E2 := Aside0.mk (show wrap64 ((i : Int) + 1) = ((i + 1 : Nat) : Int) by have := HN.out; unfold wrap64; omega)
        generalize rdL xs i = x at hcell HCC HC1 HL1 hl
        clear hcc hC1 hl1 HL
        by_cases hlt : cc < 0
        · have HL2 := Aside0.mk (show minL (slices_Compare_int_int.f k) (xs.drop (i + 1)) x = some r by rw [if_pos hlt] at hl; exact hl)
          have hd2 : decide (cc < 0) = true := decide_eq_true hlt
          clear hl hlt
          go_wp2_with (go_at_fn 47; (refine (slices_Compare_int_int.calls k A1 c1 x Ab cb b cc _ HC1.out HL1.out HCB.out HLB.out HCC.out).mono ?_); rintro e w7 ⟨rfl, hd⟩; have hb := Drawn0.below hd; have hcell7 := (hb.cell (World.block_lt_of_cell? _ _ hcell)).trans hcell; have HB7 := Aside0.mk (below_step HB.out hb); have HC7 := Aside0.mk (Kd.C_below HC.out hb); have HX7 := Aside0.mk (Kd.C_below HC1.out hb); clear hd hb)
          go_roundg k1
          case measure => omega
          case rel => exact ⟨i + 1, x, A1, c1, rfl, by rw [E2.out], ⟨by have := HK.out; omega, by omega⟩, HL2, HC7, HX7, HL1, HB7⟩
        · have HL2 := Aside0.mk (show minL (slices_Compare_int_int.f k) (xs.drop (i + 1)) b = some r by rw [if_neg hlt] at hl; exact hl)
          have hd2 : decide (cc < 0) = false := decide_eq_false hlt
          clear hl hlt
          go_wp2_with (go_at_fn 47; (refine (slices_Compare_int_int.calls k A1 c1 x Ab cb b cc _ HC1.out HL1.out HCB.out HLB.out HCC.out).mono ?_); rintro e w7 ⟨rfl, hd⟩; have hb := Drawn0.below hd; have HB7 := Aside0.mk (below_step HB.out hb); have HC7 := Aside0.mk (Kd.C_below HC.out hb); have HX7 := Aside0.mk (Kd.C_below HCB.out hb); clear hd hb)
          go_roundg k1
          case measure => omega
          case rel => exact ⟨i + 1, b, Ab, cb, rfl, by rw [E2.out], ⟨by have := HK.out; omega, by omega⟩, HL2, HC7, HX7, HLB, HB7⟩
      · obtain rfl : i = xs.length := by have := HK.out; omega
        have hd1 : decide ((xs.length : Int) < (xs.length : Int)) = false := decide_eq_false (by omega)
        have hl := HL.out
        rw [List.drop_length] at hl
        obtain rfl := Option.some.inj hl
        clear hl
        go_wp2
        go_ret
        exact ⟨⟨_, _, rfl⟩, HB.out⟩
  · rw [if_neg hn] at h
    cases h
/-- The least of the longest choices that are sorted. -/
def longF (k : Nat) (l : List Int) : Nat → Option (List Int)
  | 0 => some []
  | m + 1 => (chF (rsF k l) l.length (m + 1) (m + 2) [] 0 []).bind fun r => if 0 < r.2.length then minF k r.2 else longF k l m
set_option maxHeartbeats 16000000 in
set_option maxRecDepth 100000 in
theorem longest_calls (k : Nat) (A : Option Addr) (c : Nat) (l : List Int) (r : List Int) (w : World) (hC : Kd.C (Kd.int .i64) w A l.length l) (hc : l.length ≤ c) (hl8 : l.length ≤ 800) (h : longF k l l.length = some r) :
    Calls Try.prog 22 #[.slice A l.length c, .func (.func 23) #[] #[]] w fun e w' => (∃ Ar cr, e = .returned (.slice Ar r.length cr)) ∧ Below w.heap.size w w' := by
  have eg44 : ∀ args w, (callFunc 44 args).run Try.prog w = .ok (.enter 44 args) w := enters_of Try.func44 (by kernel_rfl) rfl
  obtain ⟨w1, hw1⟩ : ∃ w1, w1 = (w.alloc (.cells #[.slice A l.length c] 36)).alloc (.cells #[.func (.func 23) #[] #[]] 40) := ⟨_, rfl⟩
  have z1 := blk_alloc (blk_new w (.cells #[.slice A l.length c] 36)) (.cells #[.func (.func 23) #[] #[]] 40)
  have z2 := blk_new (w.alloc (.cells #[.slice A l.length c] 36)) (.cells #[.func (.func 23) #[] #[]] 40)
  rw [World.size_alloc] at z2
  rw [← hw1] at z1 z2
  have hB1 : Below w.heap.size w w1 := by rw [hw1]; exact below_alloc (below_alloc (Below.refl _ _) _) _
  have hs1 : w1.heap.size = w.heap.size + 1 + 1 := by rw [hw1, World.size_alloc, World.size_alloc]
  have Z1 := Aside0.mk z1
  have Z2 := Aside0.mk z2
  have HB1 := Aside0.mk hB1
  have HS1 := Aside0.mk hs1
  have HC1 := Aside0.mk (Kd.C_below hC hB1)
  have HCC := Aside0.mk hc
  have HL8 := Aside0.mk hl8
  have H := Aside0.mk h
  have q1 := ch_cell z1
  clear z1 z2 hB1 hs1 hC hc hl8 h
  go_enter Try.func22, Try.ntmps22
  go_upto_region 1 with fail
  (try simp only [Nat.add_assoc, Nat.reduceAdd])
  rw [← hw1]
  clear hw1
  go_wp2
  go_loopg [5] l.length (fun kq v5 wr => v5 = .int .i64 (kq : Int) ∧ Aside0 (kq ≤ l.length) ∧ Aside0 (longF k l kq = some r) ∧ Aside0 (Below w1.heap.size w1 wr))
  case atStart => exact ⟨rfl, ⟨Nat.le_refl _⟩, H, ⟨Below.refl _ _⟩⟩
  case round =>
    clear H q1
    obtain ⟨rfl, HK, HL, HB⟩ := hrel
    cases gk with
    | zero =>
      have hl := HL.out
      simp only [longF] at hl
      obtain rfl := Option.some.inj hl
      clear hl
      go_wp2
      go_ret
      exact ⟨⟨_, _, rfl⟩, below_step HB1.out HB.out⟩
    | succ m =>
      have hl := HL.out
      simp only [longF] at hl
      obtain ⟨⟨bb, xs⟩, hch, hl⟩ := Option.bind_eq_some_iff.1 hl
      dsimp only at hl
      have HCH := Aside0.mk hch
      have q1 : wr.cell? ⟨w.heap.size, 0, none⟩ = some (.slice A l.length c) := ch_cell ((HB.out.block _ (lt_of_block Z1.out)).trans Z1.out)
      have hd1 : decide (((m + 1 : Nat) : Int) > 0) = true := decide_eq_true (by omega)
      have hd2 : decide ((0 : Int) < ((m + 1 : Nat) : Int)) = true := decide_eq_true (by omega)
      obtain ⟨mi, hmi⟩ : ∃ mi : Int, mi = ((m + 1 : Nat) : Int) := ⟨_, rfl⟩
      have E1 := Aside0.mk (show wrap64 (mi - 1) = (m : Int) by have h1_ := HK.out; have h2_ := HL8.out; rw [hmi]; unfold wrap64; omega)
      have HMI := Aside0.mk hmi
      rw [← hmi] at hd1 hd2 ⊢
      clear hch hmi
      obtain ⟨W5, hW5⟩ : ∃ W5, W5 = (wr.alloc (.cells #[] 36)).alloc (.cells #[.slice (some ⟨wr.heap.size, 0, none⟩) 0 0] 27) := ⟨_, rfl⟩
      have hB5 : Below wr.heap.size wr W5 := by rw [hW5]; exact below_alloc (below_alloc (Below.refl _ _) _) _
      have hR5 : Kd.R (Kd.slice 3 (Kd.int .i64)) 36 W5 w1.heap.size (fun _ => True) (.slice (some ⟨wr.heap.size, 0, none⟩) 0 0) [] := by
        rw [hW5]
        exact Kd.R_alloc ⟨fun _ _ => trivial, [], World.ownsRow_lit (base := w1.heap.size) (e := 36) (size := 1) wr #[] 0 (below_size HB.out) (by decide) rfl, Reps.none _ _⟩ _
      have hL5 : W5.heap[wr.heap.size + 1]? = some (.cells #[.slice (some ⟨wr.heap.size, 0, none⟩) 0 0] 27 (0, 0)) := by
        rw [hW5]
        have h_ := blk_new (wr.alloc (.cells #[] 36)) (.cells #[.slice (some ⟨wr.heap.size, 0, none⟩) 0 0] 27)
        rwa [World.size_alloc] at h_
      have hI5 : LgI w1 A c l w.heap.size (wr.heap.size + 1) [] (fun i => i = wr.heap.size + 1 ∨ (Value.slice (some ⟨wr.heap.size, 0, none⟩) 0 0).ownBlock = some i) W5 :=
        ⟨below_step HB.out hB5, Nat.le_succ_of_le (below_size HB.out), Z1.out, Z2.out, HC1.out, HCC.out, _, hL5, hR5, fun _ => Iff.rfl⟩
      have hcc := choose_calls 44 #[.pointer (some ⟨w.heap.size, 0, none⟩), .pointer (some ⟨w.heap.size + 1, 0, none⟩), .pointer (some ⟨wr.heap.size + 1, 0, none⟩)] eg44 (rsF k l) (LgI w1 A c l w.heap.size (wr.heap.size + 1)) (fun s O W W' h_ hb_ => h_.below hb_) (fun s O W h_ => h_.lt) (longest1_steps k w1 A c l w.heap.size (wr.heap.size + 1)) l.length (m + 1) HL8.out (by have := HK.out; have := HL8.out; omega) [] xs bb W5 _ hI5 HCH.out
      rw [← HMI.out] at hcc
      have HCALL := Aside0.mk hcc
      have HB5 := Aside0.mk hB5
      have q5 : W5.cell? ⟨w.heap.size, 0, none⟩ = some (.slice A l.length c) := (hB5.cell (World.block_lt_of_cell? _ _ q1)).trans q1
      clear hcc hI5 hL5 hR5 hB5
      go_upto_region 5 with fail
      rw [← hW5]
      clear hW5
      by_cases hx : 0 < xs.length
      · have HMN := Aside0.mk (show minF k xs = some r by rw [if_pos hx] at hl; exact hl)
        have hd3 : decide (0 < xs.length) = true := decide_eq_true hx
        clear hl hx
        go_wp2_with (first
          | (go_at_call 43; (refine HCALL.out.mono ?_); rintro e w8 ⟨rfl, O8, hI8, _, _⟩; obtain ⟨v8, hv1, hv2, _⟩ := hI8.hv; obtain ⟨A8, c8, e8⟩ := Kd.R_slice hv2; subst e8; have q8 := ch_cell hv1; have HR8 := Aside0.mk hv2; have HB8 := Aside0.mk hI8.be; clear hv1 hv2 hI8)
          | (go_at_call 46; (refine (MinFunc_calls k A8 c8 xs r _ (Kd.R_reads' HR8.out).2.2 HMN.out).mono ?_); rintro e w9 ⟨⟨Ar, cr, rfl⟩, hb⟩; have HB9 := Aside0.mk (below_step HB8.out hb); clear hb))
        go_ret
        exact ⟨⟨_, _, rfl⟩, below_step HB1.out HB9.out⟩
      · have HL2 := Aside0.mk (show longF k l m = some r by rw [if_neg hx] at hl; exact hl)
        have hd3 : decide (0 < xs.length) = false := decide_eq_false hx
        clear hl hx
        go_wp2_with (first
          | (go_at_call 43; (refine HCALL.out.mono ?_); rintro e w8 ⟨rfl, O8, hI8, _, _⟩; obtain ⟨v8, hv1, hv2, _⟩ := hI8.hv; obtain ⟨A8, c8, e8⟩ := Kd.R_slice hv2; subst e8; have q8 := ch_cell hv1; have HR8 := Aside0.mk hv2; have HB8 := Aside0.mk hI8.be; clear hv1 hv2 hI8))
        go_roundg m
        case measure => omega
        case rel => exact ⟨by first | rw [E1.out] | rfl, ⟨by have := HK.out; omega⟩, HL2, HB8⟩
/-- The number of numbers of the longest rise. -/
def riF (k : Nat) (l : List Int) : Option Int := if l.length ≤ 800 then (longF k l l.length).bind fun r => some (r.length : Int) else none
set_option maxHeartbeats 8000000 in
set_option maxRecDepth 100000 in
theorem rise_tells (k : Nat) : TellsI Try.prog 21 #[] (riF k) (fun _ => True) := by
  intro W A c l r hC hc hF _
  show Calls Try.prog 21 #[.slice A l.length c] W _
  unfold riF at hF
  by_cases hl : l.length ≤ 800
  · rw [if_pos hl] at hF
    obtain ⟨q, hq, hF⟩ := Option.bind_eq_some_iff.1 hF
    obtain rfl := Option.some.inj hF
    have HC := Aside0.mk hC
    have HLC := Aside0.mk hc
    have HQ := Aside0.mk hq
    have HL := Aside0.mk hl
    clear hF hC hc hq hl
    go_enter Try.func21, Try.ntmps21
    go_wp2_with (go_at_call 22; (refine (longest_calls k A c l q _ HC.out HLC.out HL.out HQ.out).mono ?_); rintro e w7 ⟨⟨Ar, cr, rfl⟩, hb⟩; have HB7 := Aside0.mk hb; clear hb)
    go_ret
    exact ⟨rfl, HB7.out⟩
  · rw [if_neg hl] at hF
    cases hF
def impl_MeanRise.f (k : Nat) (a0 : Int) : Option (Int × Int × Bool) := drawnF k (riF k) a0 true
theorem rsF_le (k : Nat) (l : List Int) (p : List Int) (xs : List (List Int)) : LeO (rsF k l p xs) (rsF (k + 1) l p xs) := LeO.ite (LeO.bind (impl_at.mono _ _ _) fun _ => LeO.bind (impl_isSorted.mono _ _) fun _ => LeO.refl _) (LeO.none _)
theorem minF_le (k : Nat) (xs : List (List Int)) : LeO (minF k xs) (minF (k + 1) xs) := LeO.ite (minL_le (fun a b => slices_Compare_int_int.mono a b k) _ _) (LeO.none _)
theorem longF_le (k : Nat) (l : List Int) : ∀ m, LeO (longF k l m) (longF (k + 1) l m)
  | 0 => LeO.refl _
  | m + 1 => LeO.bind (chF_le (fun d s => rsF_le k l d s) _ _ _ _ _ _) fun _ => LeO.ite (minF_le k _) (longF_le k l m)
theorem riF_le (k : Nat) (l : List Int) : LeO (riF k l) (riF (k + 1) l) := LeO.ite (LeO.bind (longF_le k l _) fun _ => LeO.refl _) (LeO.none _)
theorem impl_MeanRise.mono : ∀ a0 k, LeO (impl_MeanRise.f k a0) (impl_MeanRise.f (k + 1) a0) := fun a0 k => drawnF_le (fun l => riF_le k l) a0 true
set_option maxHeartbeats 8000000 in
set_option maxRecDepth 100000 in
theorem impl_MeanRise.calls (k : Nat) (a0 : Int) (r1_0 r1_1 : Int) (r2 : Bool) (w : World) (h : impl_MeanRise.f k a0 = some (r1_0, r1_1, r2)) :
    Calls Try.prog 7 #[.int .i64 a0] w fun e w' => e = .returned (.tuple #[.agg #[.int .i64 r1_0, .int .i64 r1_1], .bool r2]) ∧ Below w.heap.size w w' := by
  have hu := Try.underlying22
  have H := Aside0.mk h
  have HB0 := Aside0.mk (below_alloc (Below.refl w.heap.size w) (.cells #[.int .i64 0, .int .i64 0] 22))
  have HX := Aside0.mk (blk_new w (.cells #[.int .i64 0, .int .i64 0] 22))
  have eg : ∀ args w, (callFunc 21 args).run Try.prog w = .ok (.enter 21 args) w := enters_of Try.func21 (by kernel_rfl) rfl
  clear h
  go_enter Try.func7, Try.ntmps7
  go_wp2_with (go_at_call 20; (refine (drawnMean_calls k 21 #[] eg _ (fun _ => True) (fun _ _ _ _ => trivial) (rise_tells k) a0 true r1_0 r1_1 r2 _ H.out trivial).mono ?_); rintro e w7 ⟨rfl, hb⟩; have HB7 := Aside0.mk (below_step HB0.out hb); have HX7 := Aside0.mk ((hb.block _ (lt_of_block HX.out)).trans HX.out); have c0 := (mn_cell_of_two HX7.out).1; have c1 := (mn_cell_of_two HX7.out).2; have f0 := (mn_free_of_two HX7.out).1; have f1 := (mn_free_of_two HX7.out).2; clear hb)
  have g0 := blk_put HX7.out 0 (.int .i64 r1_0) rfl
  have g1 := blk_put g0 1 (.int .i64 r1_1) rfl
  refine bodyPost_ret (v := .tuple #[.agg #[.int .i64 r1_0, .int .i64 r1_1], .bool r2]) ?_ rfl ?_
  · exact results_list (rs := [.cell 2 22, .tmp 3]) rfl (by simp) (.cell w.heap.size 22 #[.int .i64 r1_0, .int .i64 r1_1] (0, 0) _ rfl g1 hu rfl (by kernel_rfl) (.tmp .nil))
  · exact ⟨rfl, below_set (below_set HB7.out (Nat.le_refl _)) (Nat.le_refl _)⟩

end Go.Proofs.Yteccmfcmkghbgaa.Xr
