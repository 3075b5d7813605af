/- The chance to avoid patterns: impl.choose, the first places, what avoids, the chance. -/
import Derived.Test.YteccmfcmkghbgaaZpXp0
import Derived.Test.YteccmfcmkghbgaaZpXp6
import Derived.Test.YteccmfcmkghbgaaZpXp7
import Derived.Test.YteccmfcmkghbgaaZpXp8
import Derived.Test.YteccmfcmkghbgaaZpXpHclone
import Derived.OneCell
import Derived.Laws.EntriesVeiled
import Derived.Lib.SliceRun
import Derived.Shelf.Abstract
import Derived.Outline
import Derived.Deep.RegionHeld3
import Derived.BigQuiet
import Derived.Deep.QuietTactic
import Derived.RegionTactic
import Derived.BigRegion
namespace Go.Proofs.Yteccmfcmkghbgaa.Xp
open Go.RowKit Go.Proofs.YteccmfcmkghbgaaW.PrintWords Go.Proofs.YteccmfcmkghbgaaW.PrintLast Go.Proofs.YteccmfcmkghbgaaW.PrintMore
attribute [local go_sem] max2_int min2_int max_two min_two max_three min_three max_four min_four
set_option linter.unusedVariables false
set_option linter.unusedSimpArgs false
theorem ch_cell {w : World} {b e : Nat} {v : Value} (h : w.heap[b]? = some (.cells #[v] e (0, 0))) : w.cell? ⟨b, 0, none⟩ = some v := by simp [World.cell?, h]
/-- What stays: every block but those of O, and all but memory. -/
structure Fr (O : Nat → Prop) (W W2 : World) : Prop where
  os : W2.os = W.os
  tape : W2.tape = W.tape
  output : W2.output = W.output
  size : W.heap.size ≤ W2.heap.size
  block : ∀ i, i < W.heap.size → ¬ O i → W2.heap[i]? = W.heap[i]?
def Nw (O O2 : Nat → Prop) (W : World) : Prop := ∀ i, O2 i → O i ∨ W.heap.size ≤ i
section
variable {O O2 O3 : Nat → Prop} {W W2 W3 : World}
theorem Fr.refl (O : Nat → Prop) (W : World) : Fr O W W := ⟨rfl, rfl, rfl, Nat.le_refl _, fun _ _ _ => rfl⟩
theorem Fr.of_below (h : Below W.heap.size W W2) : Fr O W W2 := ⟨h.os, h.tape, h.output, h.size, fun i hi _ => h.block i hi⟩
theorem Fr.trans (h : Fr O W W2) (hn : Nw O O2 W) (k : Fr O2 W2 W3) : Fr O W W3 := ⟨k.os.trans h.os, k.tape.trans h.tape, k.output.trans h.output, Nat.le_trans h.size k.size, fun i hi ho => (k.block i (Nat.lt_of_lt_of_le hi h.size) (fun h2 => (hn i h2).elim ho (fun h3 => absurd hi (by omega)))).trans (h.block i hi ho)⟩
theorem Nw.refl (O : Nat → Prop) (W : World) : Nw O O W := fun _ h => .inl h
theorem Nw.trans (h : Nw O O2 W) (hs : W.heap.size ≤ W2.heap.size) (k : Nw O2 O3 W2) : Nw O O3 W := fun i h3 => (k i h3).elim (h i) (fun h4 => .inr (Nat.le_trans hs h4))
theorem Fr.below {B : Nat} {w0 : World} (h : Fr O W W2) (hb : Below B w0 W) (hB : B ≤ W.heap.size) (hO : ∀ i, O i → B ≤ i) : Below B w0 W2 := ⟨h.os.trans hb.os, h.tape.trans hb.tape, h.output.trans hb.output, Nat.le_trans hb.size h.size, fun i hi => (h.block i (Nat.lt_of_lt_of_le hi hB) (fun ho => absurd (hO i ho) (by omega))).trans (hb.block i hi)⟩
theorem Fr.weaken {O2 : Nat → Prop} (h : Fr O W W2) (hw : ∀ i, O i → O2 i) : Fr O2 W W2 := ⟨h.os, h.tape, h.output, h.size, fun i hi ho => h.block i hi (fun h2 => ho (hw i h2))⟩
end
/-- The cells of choose from block q on. -/
structure ChI (q g : Nat) (lb : Array Value) (n many : Int) (W : World) : Prop where
  cn : W.heap[q]? = some (.cells #[.int .i64 n] 3 (0, 0))
  cm : W.heap[q + 1]? = some (.cells #[.int .i64 many] 3 (0, 0))
  cw : W.heap[q + 2]? = some (.cells #[.func (.func g) #[] lb] 40 (0, 0))
  ca : W.heap[q + 3]? = some (.cells #[.func (.func 66) #[] #[.pointer (some ⟨q + 1, 0, none⟩), .pointer (some ⟨q + 2, 0, none⟩), .pointer (some ⟨q, 0, none⟩), .pointer (some ⟨q + 3, 0, none⟩)]] 66 (0, 0))
theorem ChI.fr {q g : Nat} {lb : Array Value} {n many : Int} {W W2 : World} {O : Nat → Prop} (h : ChI q g lb n many W) (hf : Fr O W W2) (hq : ∀ i, O i → i < q ∨ q + 4 ≤ i) : ChI q g lb n many W2 :=
  ⟨(hf.block _ (lt_of_block h.cn) (fun ho => by have := hq _ ho; omega)).trans h.cn, (hf.block _ (lt_of_block h.cm) (fun ho => by have := hq _ ho; omega)).trans h.cm, (hf.block _ (lt_of_block h.cw) (fun ho => by have := hq _ ho; omega)).trans h.cw, (hf.block _ (lt_of_block h.ca) (fun ho => by have := hq _ ho; omega)).trans h.ca⟩
theorem ChI.below {q g : Nat} {lb : Array Value} {n many : Int} {W W2 : World} (h : ChI q g lb n many W) (hb : Below W.heap.size W W2) : ChI q g lb n many W2 := h.fr (O := fun _ => False) (Fr.of_below hb) (fun _ h_ => h_.elim)
/-- A row of one's own beside what O may change. -/
theorem row_fr {W W2 : World} {O O2 : Nat → Prop} {base : Nat} {v : Value} {d : List Int} (hR : Kd.R (Kd.int .i64) 3 W base (fun k => ¬ O k) v d) (hf : Fr O W W2) (hn : Nw O O2 W) : Kd.R (Kd.int .i64) 3 W2 base (fun k => ¬ O2 k) v d :=
  Kd.R_mono (Kd.R_move (Kd.R_bound hR) (fun k hk => hf.block k hk.2.2.1 hk.1)) (fun k hk h2 => (hn k h2).elim hk.1 (fun h3 => absurd hk.2.2.1 (by omega)))
theorem row_new {W : World} {O : Nat → Prop} {base : Nat} {v : Value} {d : List Int} (hR : Kd.R (Kd.int .i64) 3 W base (fun _ => True) v d) (hO : ∀ i, O i → i < base) : Kd.R (Kd.int .i64) 3 W base (fun k => ¬ O k) v d :=
  Kd.R_mono (Kd.R_bound hR) (fun k hk h2 => absurd (hO k h2) (by have := hk.2.1; omega))
section
variable {σ : Type}
/-- Places from i on, as long as it isn't enough. -/
def cwL (G : Nat → σ → Option (Bool × σ)) : Nat → Nat → σ → Option (Bool × σ)
  | 0, _, s => some (false, s)
  | c + 1, i, s => (G i s).bind fun r => if r.1 = true then some (true, r.2) else cwL G c (i + 1) r.2
def cwF (F : List Int → σ → Option (Bool × σ)) (n many : Nat) : Nat → List Int → Nat → σ → Option (Bool × σ)
  | 0, _, _, _ => none
  | m + 1, d, i, s => if d.length = many then F d s else cwL (fun x s => cwF F n many m (d ++ [(x : Int)]) (x + 1) s) (n - i) i s
theorem cwL_le {G H : Nat → σ → Option (Bool × σ)} (h : ∀ i s, LeO (G i s) (H i s)) : ∀ c i s, LeO (cwL G c i s) (cwL H c i s)
  | 0, _, _ => LeO.refl _
  | c + 1, i, s => LeO.bind (h i s) fun _ => LeO.ite (LeO.refl _) (cwL_le h c _ _)
theorem cwF_le {F G : List Int → σ → Option (Bool × σ)} (h : ∀ d s, LeO (F d s) (G d s)) (n many : Nat) : ∀ m d i s, LeO (cwF F n many m d i s) (cwF G n many m d i s)
  | 0, _, _, _ => LeO.none _
  | m + 1, d, i, s => LeO.ite (h d s) (cwL_le (fun x s => cwF_le h n many m _ _ s) _ _ _)
/-- A function value that tells F of lists and of its state s; what it may write is O. -/
def Steps (P : Program) (g : Nat) (lb : Array Value) (F : List Int → σ → Option (Bool × σ)) (I : σ → (Nat → Prop) → World → Prop) : Prop :=
  ∀ (W : World) (A : Option Addr) (c : Nat) (l : List Int) (s s' : σ) (b : Bool) (O : Nat → Prop), Kd.C (Kd.int .i64) W A l.length l → l.length ≤ c → l.length ≤ 1000 → F l s = some (b, s') → I s O W →
    Calls P g (#[.slice A l.length c] ++ lb) W fun e w' => e = .returned (.bool b) ∧ ∃ O', I s' O' w' ∧ Fr O W w' ∧ Nw O O' W
theorem Steps.at_ {P : Program} {g : Nat} {lb : Array Value} {F : List Int → σ → Option (Bool × σ)} {I : σ → (Nat → Prop) → World → Prop} (h : Steps P g lb F I) (W : World) (A : Option Addr) (c : Nat) (l : List Int) (s s' : σ) (b : Bool) (O : Nat → Prop) (hC : Kd.C (Kd.int .i64) W A l.length l) (hc : l.length ≤ c) (hl : l.length ≤ 1000) (hF : F l s = some (b, s')) (hI : I s O W) :
    Calls P g (#[.slice A l.length c] ++ lb) W fun e w' => e = .returned (.bool b) ∧ ∃ O', I s' O' w' ∧ Fr O W w' ∧ Nw O O' W := h W A c l s s' b O hC hc hl hF hI
variable {ops : Array Oper} {rest : List Oper} {o : Oper} {a : Act} {Q : Exit → Act → World → Prop} {Kc : Act → World → Prop}
/-- A number behind a row of one's own, in a region that draws. -/
theorem app1_step {W : World} (hw : Region.wanted o (yielded ops a.tmps) = true) (s x : Operand) (ho : o.op = .call { callee := .builtin .append, args := #[s, x], argTypes := #[36, 36] }) (base : Nat) (v : Value) (d : List Int) (y : Int) (ad : Addr) (hs : a.eval s = v) (hx : a.eval x = .slice (some ad) 1 1)
    (hR : Kd.R (Kd.int .i64) 3 W base (fun _ => True) v d) (hcell : W.cell? (ad.add 0) = some (.int .i64 y)) (hl : d.length ≤ 1000) (hbase : base ≤ W.heap.size)
    (h : ∀ v1 w1, Kd.R (Kd.int .i64) 3 w1 base (fun _ => True) v1 (d ++ [y]) → W.grownBy w1 v.ownBlock → Below base W w1 → Kc (a.put o.dst v1) w1) : if Region.wanted o (yielded ops a.tmps) = true then Oper.wp Try.prog o a W Kc Q else Kc (a.put o.dst undef) W := by
  obtain ⟨i0, hi0, hz0, hsz0, hby0⟩ := info_parts info3
  obtain ⟨v', w', hrun, hown, hg, _⟩ := run_append_own (P := Try.prog) (w := W) base 36 o.type 3 i0 (.int .i64 0) 1 8 Try.underlying36 hi0 hz0 hsz0 hby0 rfl (by omega) v d.length (encs (Value.int .i64) d) (Kd.own_of_R hR) ad 1 1 [.int .i64 y] rfl (fun j u hj => by
    have hj0 : j = 0 := by
      rcases Nat.eq_zero_or_pos j with h_ | h_
      · exact h_
      · rw [List.getElem?_eq_none (by simp; omega)] at hj
        cases hj
    subst hj0
    have : u = .int .i64 y := by simpa using hj.symm
    rw [this]
    exact hcell) (fun u hu => by
    have : u = .int .i64 y := by simpa using hu
    rw [this]
    rfl) (by show d.length + 1 ≤ 9223372036854775807; omega) (by omega) hbase
  rw [if_pos hw]
  unfold Oper.wp execOp
  simp only [ho, resolve, invoke, builtin, Sem.run_bind, Sem.run_pure, Result.andThen_ok, List.map_toArray, List.map_cons, List.map_nil, hs, hx, hrun]
  refine h v' w' (Kd.R_of_own (by simpa [encs] using hown) (fun _ _ => trivial)) hg ((Below.refl _ _).grown hg hbase (fun k hk => Kd.R_base hR k hk))
end
set_option maxHeartbeats 16000000 in
set_option maxRecDepth 100000 in
theorem add_calls {σ : Type} (g : Nat) (lb : Array Value) (eg : ∀ args w, (callFunc g args).run Try.prog w = .ok (.enter g args) w) (F : List Int → σ → Option (Bool × σ)) (I : σ → (Nat → Prop) → World → Prop)
    (hI : ∀ s O W W', I s O W → Below W.heap.size W W' → I s O W') (hO : ∀ s O W, I s O W → ∀ i, O i → i < W.heap.size) (ht : Steps Try.prog g lb F I) (q n many : Nat) (hn : n ≤ 1000) (hm : many ≤ 800) :
    ∀ (m : Nat) (d : List Int) (fr : Nat) (s s' : σ) (b : Bool) (W : World) (base : Nat) (Ad : Option Addr) (cd : Nat) (O : Nat → Prop), ChI q g lb (n : Int) (many : Int) W → Kd.R (Kd.int .i64) 3 W base (fun k => ¬ O k) (.slice Ad d.length cd) d → base ≤ W.heap.size → I s O W → (∀ i, O i → i < q ∨ q + 4 ≤ i) → q + 4 ≤ W.heap.size → cwF F n many m d fr s = some (b, s') → d.length + m ≤ 900 → fr ≤ 1001 →
    Calls Try.prog 66 #[.slice Ad d.length cd, .int .i64 (fr : Int), .pointer (some ⟨q + 1, 0, none⟩), .pointer (some ⟨q + 2, 0, none⟩), .pointer (some ⟨q, 0, none⟩), .pointer (some ⟨q + 3, 0, none⟩)] W fun e w' => e = .returned (.bool b) ∧ ∃ O', I s' O' w' ∧ Fr O W w' ∧ Nw O O' W := by
  have eg66 : ∀ args w, (callFunc 66 args).run Try.prog w = .ok (.enter 66 args) w := enters_of Try.func66 (by kernel_rfl) rfl
  have HT := Aside0.mk ht
  have HN := Aside0.mk hn
  clear ht hn
  intro m
  induction m with
  | zero =>
    intro d fr s s' b W base Ad cd O _ _ _ _ _ _ h
    cases h
  | succ m IH =>
    intro d fr s s' b W base Ad cd O hci hR hb1 hIs hq hqw h hdm hfr
    have HCI := Aside0.mk hci
    have HR := Aside0.mk hR
    have HB1 := Aside0.mk hb1
    have HIS := Aside0.mk hIs
    have HQ := Aside0.mk hq
    have HQW := Aside0.mk hqw
    have HBD := Aside0.mk hdm
    have HFR := Aside0.mk hfr
    have q1 := ch_cell hci.cm
    have q2 := ch_cell hci.cw
    have HC0 := Aside0.mk (Kd.R_reads' hR).2.2
    have HL0 := Aside0.mk (Kd.R_reads' hR).2.1
    simp only [cwF] at h
    by_cases hd : d.length = many
    · rw [if_pos hd] at h
      have H := Aside0.mk h
      have heq : ((d.length : Int) == (many : Int)) = true := by rw [hd]; simp
      clear hci hR hb1 hIs hq hqw h hdm hfr hd
      go_enter Try.func66, Try.ntmps66
      go_wp2_with (go_at_fn g; (refine (HT.out.at_ _ Ad cd d s s' b O HC0.out HL0.out (by have := HBD.out; omega) H.out HIS.out).mono ?_); rintro e w2 ⟨rfl, O2, hi2, hf2, hn2⟩; have HI2 := Aside0.mk hi2; have HF2 := Aside0.mk hf2; have HN2 := Aside0.mk hn2; clear hi2 hf2 hn2)
      go_ret
      exact ⟨rfl, O2, HI2.out, HF2.out, HN2.out⟩
    · rw [if_neg hd] at h
      have heq : ((d.length : Int) == (many : Int)) = false := beq_eq_false_iff_ne.2 (by omega)
      have H := Aside0.mk h
      clear hci hR hb1 hIs hq hqw h hdm hfr hd
      go_enter Try.func66, Try.ntmps66
      go_wp2
      go_loopg [9] (n - fr) (fun kq v9 wr => ∃ (x : Nat) (sx : σ) (Ox : Nat → Prop), v9 = .int .i64 (x : Int) ∧ Aside0 (n - x = kq ∧ x ≤ 1001) ∧ Aside0 (cwL (fun x s => cwF F n many m (d ++ [(x : Int)]) (x + 1) s) kq x sx = some (b, s')) ∧ Aside0 (ChI q g lb (n : Int) (many : Int) wr) ∧ Aside0 (Kd.R (Kd.int .i64) 3 wr base (fun k => ¬ Ox k) (.slice Ad d.length cd) d) ∧ Aside0 (I sx Ox wr) ∧ Aside0 (∀ i, Ox i → i < q ∨ q + 4 ≤ i) ∧ Aside0 (Fr O W wr) ∧ Aside0 (Nw O Ox W))
      case atStart => exact ⟨fr, s, O, rfl, ⟨rfl, HFR.out⟩, H, HCI, HR, HIS, HQ, ⟨Fr.refl _ _⟩, ⟨Nw.refl _ _⟩⟩
      case round =>
        clear q1 q2 H heq HCI HR HIS HQ HC0 HL0
        obtain ⟨x, sx, Ox, rfl, HK, HL, HCI, HRD, HIX, HOX, HFX, HNX⟩ := hrel
        have q3 := ch_cell HCI.out.cn
        by_cases hx : x < n
        · obtain ⟨k1, hk1⟩ : ∃ k1, gk = k1 + 1 := ⟨gk - 1, by have := HK.out; omega⟩
          subst hk1
          have d1 : decide (x < n) = true := decide_eq_true hx
          have hl := HL.out
          simp only [cwL] at hl
          obtain ⟨⟨r1, s1⟩, hr1, hl⟩ := Option.bind_eq_some_iff.1 hl
          have HDC := Aside0.mk (Kd.R_reads' HRD.out).2.2
          have HLD := Aside0.mk (Kd.R_reads' HRD.out).2.1
          have hCa : ChI q g lb (n : Int) (many : Int) wr.drew := HCI.out.below (below_drew (Below.refl _ _))
          have E1 := Aside0.mk (show wrap64 ((x : Int) + 1) = ((x + 1 : Nat) : Int) by have := HN.out; unfold wrap64; omega)
          obtain ⟨dx, hdx⟩ : ∃ dx, dx = d ++ [(x : Int)] := ⟨_, rfl⟩
          rw [← hdx] at hr1
          have HDL := Aside0.mk (show dx.length = d.length + 1 by rw [hdx]; simp)
          have HDX := Aside0.mk hdx
          have HG := Aside0.mk hr1
          have HCL := Aside0.mk (show slices_Clone_int_int.f d = some d by unfold slices_Clone_int_int.f; rw [if_pos (by have := HBD.out; omega)])
          replace HQW := Aside0.mk (Nat.le_trans HQW.out HFX.out.size)
          clear hr1 hdx
          cases r1 with
          | true =>
            rw [if_pos rfl] at hl
            have h' := Option.some.inj hl
            simp only [Prod.mk.injEq] at h'
            obtain ⟨rfl, rfl⟩ := h'
            clear hl
            go_upto_region 6 with fail
            refine wp_region_held_drew (S := ChI q g lb (n : Int) (many : Int)) (by kernel_rfl) hCa (fun hHeld => ?_)
            refine wpAnyH_take (i := 0) (oi := ?oimA0) (v := (.func (.func 66) #[] #[.pointer (some ⟨q + 1, 0, none⟩), .pointer (some ⟨q + 2, 0, none⟩), .pointer (some ⟨q, 0, none⟩), .pointer (some ⟨q + 3, 0, none⟩)])) ?himA0 (by kernel_rfl) (by kernel_rfl) (by kernel_rfl) ?hQmA0 ?hymA0 hHeld ?hmA0
            case himA0 => (simp only [List.getElem?_toArray, List.getElem?_cons_succ, List.getElem?_cons_zero]; rfl)
            case hQmA0 => exact fun _ _ _ h => h
            case hymA0 => exact Or.inl ⟨by rfl, by intro w_ hSw; have h_ := ch_cell (ChI.ca hSw); first | (go_simp; done) | (go_simp; with_reducible rfl)⟩
            try simp only [Act.put, List.setIfInBounds_toArray, List.set_cons_zero, List.set_cons_succ]
            refine wpAnyH_take (i := 1) (oi := ?oimA1) (v := ?vmA1) ?himA1 (by kernel_rfl) (by kernel_rfl) (by kernel_rfl) ?hQmA1 ?hymA1 hHeld ?hmA1
            case himA1 => (simp only [List.getElem?_toArray, List.getElem?_cons_succ, List.getElem?_cons_zero]; rfl)
            case hQmA1 => exact fun _ _ _ h => h
            case hymA1 => exact Or.inl ⟨by rfl, by intro w_ hSw; (try dsimp only at hSw); first | (go_simp; done) | (go_simp; with_reducible rfl)⟩
            try simp only [Act.put, List.setIfInBounds_toArray, List.set_cons_zero, List.set_cons_succ]
            refine wpAnyH_take (i := 3) (oi := ?oimA3) (v := ?vmA3) ?himA3 (by kernel_rfl) (by kernel_rfl) (by kernel_rfl) ?hQmA3 ?hymA3 hHeld ?hmA3
            case himA3 => (simp only [List.getElem?_toArray, List.getElem?_cons_succ, List.getElem?_cons_zero]; rfl)
            case hQmA3 => exact fun _ _ _ h => h
            case hymA3 => exact Or.inl ⟨by rfl, by intro w_ hSw; (try dsimp only at hSw); first | (go_simp; done) | (go_simp; with_reducible rfl)⟩
            try simp only [Act.put, List.setIfInBounds_toArray, List.set_cons_zero, List.set_cons_succ]
            refine wpAnyH_take (i := 6) (oi := ?oimA6) (v := ?vmA6) ?himA6 (by kernel_rfl) (by kernel_rfl) (by kernel_rfl) ?hQmA6 ?hymA6 hHeld ?hmA6
            case himA6 => (simp only [List.getElem?_toArray, List.getElem?_cons_succ, List.getElem?_cons_zero]; rfl)
            case hQmA6 => exact fun _ _ _ h => h
            case hymA6 => exact Or.inl ⟨by rfl, by intro w_ hSw; (try dsimp only at hSw); first | (go_simp; done) | (go_simp; with_reducible rfl)⟩
            try simp only [Act.put, List.setIfInBounds_toArray, List.set_cons_zero, List.set_cons_succ]
            refine wpAnyH_take (i := 7) (oi := ?oimA7) (v := ?vmA7) ?himA7 (by kernel_rfl) (by kernel_rfl) (by kernel_rfl) ?hQmA7 ?hymA7 hHeld ?hmA7
            case himA7 => (simp only [List.getElem?_toArray, List.getElem?_cons_succ, List.getElem?_cons_zero]; rfl)
            case hQmA7 => exact fun _ _ _ h => h
            case hymA7 => exact Or.inl ⟨by rfl, by intro w_ hSw; (try dsimp only at hSw); first | (go_simp; done) | (go_simp; with_reducible rfl)⟩
            try simp only [Act.put, List.setIfInBounds_toArray, List.set_cons_zero, List.set_cons_succ]
            have hRd5 := Kd.R_drew HRD.out
            refine wpAnyH_ready (rs := [2, 4]) (by kernel_rfl) (by simp) ?_
            refine AllReadyH.cons (o := ?ocmAX2) ?hcmAX2 (fun K hK => ?hkmAX2) ?hmmAX
            case hcmAX2 => (simp only [List.getElem?_toArray, List.getElem?_cons_succ, List.getElem?_cons_zero]; rfl)
            case hkmAX2 =>
              go_simp
              go_at_call 67
              refine (slices_Clone_int_int.calls Ad cd d d _ (Kd.R_reads' hRd5).2.2 HLD.out HCL.out).mono ?_
              rintro e w6 ⟨v6, rfl, ho6, hb6⟩
              have hb6' : Below wr.heap.size wr w6 := below_step (below_drew (Below.refl _ _)) hb6
              have hIc := hCa.below hb6
              try dsimp only
              refine hK.out _ _ hIc (fun hHeld => ?_)
              clear hK K
              try simp only [Act.put, List.setIfInBounds_toArray, List.set_cons_zero, List.set_cons_succ]
              refine wpAnyH_ready (rs := [4]) (by kernel_rfl) (by simp) ?_
              refine AllReadyH.cons (o := ?ocmAX4) ?hcmAX4 (fun K hK => ?hkmAX4) AllReadyH.nil
              case hcmAX4 => (simp only [List.getElem?_toArray, List.getElem?_cons_succ, List.getElem?_cons_zero]; rfl)
              go_simp
              have hbl : Below w6.heap.size w6 (w6.alloc (.cells #[.int .i64 (x : Int)] 3)) := below_alloc (Below.refl _ _) _
              have hId := hIc.below hbl
              have hB7 : Below wr.heap.size wr (w6.alloc (.cells #[.int .i64 (x : Int)] 3)) := below_step hb6' hbl
              refine hK.out _ _ hId (fun hHeld => ?_)
              clear hK K
              try simp only [Act.put, List.setIfInBounds_toArray, List.set_cons_zero, List.set_cons_succ]
              have hcell : (w6.alloc (.cells #[.int .i64 (x : Int)] 3)).cell? ((⟨w6.heap.size, 0, none⟩ : Addr).add 0) = some (.int .i64 (x : Int)) := by rw [show ((⟨w6.heap.size, 0, none⟩ : Addr).add 0) = ⟨w6.heap.size, 0, none⟩ from rfl]; exact ch_cell (blk_new w6 _)
              have hR6 := Kd.R_below ho6 hbl
              have hbs : wr.heap.size ≤ wr.drew.heap.size := by
                have h3_ : wr.drew.heap.size = wr.heap.size := rfl
                (try rw [World.size_alloc]); omega
              refine wpAnyH_ready (rs := [5]) (by kernel_rfl) (by simp) ?_
              refine AllReadyH.cons (o := ?ocmAX5) ?hcmAX5 (fun K hK => ?hkmAX5) AllReadyH.nil
              case hcmAX5 => (simp only [List.getElem?_toArray, List.getElem?_cons_succ, List.getElem?_cons_zero]; rfl)
              refine app1_step (by rfl) (.tmp 25) (.tmp 27) (by rfl) (wr.drew.heap.size) v6 d (x : Int) ⟨w6.heap.size, 0, none⟩ rfl rfl hR6 hcell (by have := HBD.out; omega) (by first | exact hb6.size | (rw [World.size_alloc]; have := hb6.size; omega)) ?_
              intro v7 w7 ho7 hg7 hb7
              rw [← HDX.out] at ho7
              obtain ⟨A7, c7, e7⟩ := Kd.R_slice ho7
              subst e7
              have hB8 : Below wr.heap.size wr w7 := ⟨hb7.os.trans hB7.os, hb7.tape.trans hB7.tape, hb7.output.trans hB7.output, Nat.le_trans hB7.size hb7.size, fun k hk => (hb7.block k (by omega)).trans (hB7.block k hk)⟩
              have hIf := HCI.out.below hB8
              have hS8 := hI _ _ _ _ HIX.out hB8
              refine hK.out _ _ hIf (fun hHeld => ?_)
              clear hK K
              try simp only [Act.put, List.setIfInBounds_toArray, List.set_cons_zero, List.set_cons_succ]
              refine wpAnyH_ready (rs := [8]) (by kernel_rfl) (by simp) ?_
              refine AllReadyH.cons (o := ?ocmAX8) ?hcmAX8 (fun K hK => ?hkmAX8) AllReadyH.nil
              case hcmAX8 => (simp only [List.getElem?_toArray, List.getElem?_cons_succ, List.getElem?_cons_zero]; rfl)
              go_simp
              simp only [i64_w, E1.out]
              go_at_fn 66
              refine (IH dx (x + 1) sx s1 true w7 (wr.drew.heap.size) A7 c7 Ox hIf (row_new ho7 (fun i hi => Nat.lt_of_lt_of_le (hO _ _ _ HIX.out i hi) hbs)) (by first | exact Nat.le_trans hb6.size hb7.size | (have h1_ := hb6.size; have h2_ := hb7.size; rw [World.size_alloc] at h2_; omega) | (have h1_ := hb6.size; have h2_ := hb7.size; rw [World.size_alloc] at h1_ ⊢; omega)) hS8 HOX.out (by have h1_ := HQW.out; have h2_ := hB8.size; omega) HG.out (by have := HBD.out; have := HDL.out; omega) (by have := HN.out; omega)).mono ?_
              rintro e w8 ⟨rfl, O8, hi8, hf8, hn8⟩
              have hIg := hIf.fr hf8 HOX.out
              have hf9 : Fr Ox wr w8 := (Fr.of_below hB8).trans (Nw.refl _ _) hf8
              have hn9 : Nw Ox O8 wr := Nw.trans (Nw.refl _ _) hB8.size hn8
              try dsimp only
              refine hK.out _ _ hIg (fun hHeld => ?_)
              clear hK K
              try simp only [Act.put, List.setIfInBounds_toArray, List.set_cons_zero, List.set_cons_succ]
              refine wpAnyH_done (by kernel_rfl) ?_ _
              go_wp2
              go_ret
              exact ⟨rfl, O8, hi8, HFX.out.trans HNX.out hf9, HNX.out.trans HFX.out.size hn9⟩
            case hmmAX =>
              refine AllReadyH.cons (o := ?ocmAY4) ?hcmAY4 (fun K hK => ?hkmAY4) AllReadyH.nil
              case hcmAY4 => (simp only [List.getElem?_toArray, List.getElem?_cons_succ, List.getElem?_cons_zero]; rfl)
              go_simp
              have hbl : Below wr.drew.heap.size wr.drew (wr.drew.alloc (.cells #[.int .i64 (x : Int)] 3)) := below_alloc (Below.refl _ _) _
              have hIc := hCa.below hbl
              refine hK.out _ _ hIc (fun hHeld => ?_)
              clear hK K
              try simp only [Act.put, List.setIfInBounds_toArray, List.set_cons_zero, List.set_cons_succ]
              refine wpAnyH_ready (rs := [2]) (by kernel_rfl) (by simp) ?_
              refine AllReadyH.cons (o := ?ocmAY2) ?hcmAY2 (fun K hK => ?hkmAY2) AllReadyH.nil
              case hcmAY2 => (simp only [List.getElem?_toArray, List.getElem?_cons_succ, List.getElem?_cons_zero]; rfl)
              go_simp
              go_at_call 67
              refine (slices_Clone_int_int.calls Ad cd d d _ (Kd.R_reads' (Kd.R_below hRd5 hbl)).2.2 HLD.out HCL.out).mono ?_
              rintro e w6 ⟨v6, rfl, ho6, hb6⟩
              have hId := hIc.below hb6
              have hB7 : Below wr.heap.size wr w6 := below_step (below_step (below_drew (Below.refl _ _)) hbl) hb6
              try dsimp only
              refine hK.out _ _ hId (fun hHeld => ?_)
              clear hK K
              try simp only [Act.put, List.setIfInBounds_toArray, List.set_cons_zero, List.set_cons_succ]
              have hcell : w6.cell? ((⟨wr.drew.heap.size, 0, none⟩ : Addr).add 0) = some (.int .i64 (x : Int)) := by rw [show ((⟨wr.drew.heap.size, 0, none⟩ : Addr).add 0) = ⟨wr.drew.heap.size, 0, none⟩ from rfl]; exact ch_cell ((hb6.block _ (by rw [World.size_alloc]; omega)).trans (blk_new wr.drew _))
              have hR6 := ho6
              have hbs : wr.heap.size ≤ (wr.drew.alloc (.cells #[.int .i64 (x : Int)] 3)).heap.size := by
                have h3_ : wr.drew.heap.size = wr.heap.size := rfl
                (try rw [World.size_alloc]); omega
              refine wpAnyH_ready (rs := [5]) (by kernel_rfl) (by simp) ?_
              refine AllReadyH.cons (o := ?ocmAY5) ?hcmAY5 (fun K hK => ?hkmAY5) AllReadyH.nil
              case hcmAY5 => (simp only [List.getElem?_toArray, List.getElem?_cons_succ, List.getElem?_cons_zero]; rfl)
              refine app1_step (by rfl) (.tmp 25) (.tmp 27) (by rfl) ((wr.drew.alloc (.cells #[.int .i64 (x : Int)] 3)).heap.size) v6 d (x : Int) ⟨wr.drew.heap.size, 0, none⟩ rfl rfl hR6 hcell (by have := HBD.out; omega) (by first | exact hb6.size | (rw [World.size_alloc]; have := hb6.size; omega)) ?_
              intro v7 w7 ho7 hg7 hb7
              rw [← HDX.out] at ho7
              obtain ⟨A7, c7, e7⟩ := Kd.R_slice ho7
              subst e7
              have hB8 : Below wr.heap.size wr w7 := ⟨hb7.os.trans hB7.os, hb7.tape.trans hB7.tape, hb7.output.trans hB7.output, Nat.le_trans hB7.size hb7.size, fun k hk => (hb7.block k (by omega)).trans (hB7.block k hk)⟩
              have hIf := HCI.out.below hB8
              have hS8 := hI _ _ _ _ HIX.out hB8
              refine hK.out _ _ hIf (fun hHeld => ?_)
              clear hK K
              try simp only [Act.put, List.setIfInBounds_toArray, List.set_cons_zero, List.set_cons_succ]
              refine wpAnyH_ready (rs := [8]) (by kernel_rfl) (by simp) ?_
              refine AllReadyH.cons (o := ?ocmAY8) ?hcmAY8 (fun K hK => ?hkmAY8) AllReadyH.nil
              case hcmAY8 => (simp only [List.getElem?_toArray, List.getElem?_cons_succ, List.getElem?_cons_zero]; rfl)
              go_simp
              simp only [i64_w, E1.out]
              go_at_fn 66
              refine (IH dx (x + 1) sx s1 true w7 ((wr.drew.alloc (.cells #[.int .i64 (x : Int)] 3)).heap.size) A7 c7 Ox hIf (row_new ho7 (fun i hi => Nat.lt_of_lt_of_le (hO _ _ _ HIX.out i hi) hbs)) (by first | exact Nat.le_trans hb6.size hb7.size | (have h1_ := hb6.size; have h2_ := hb7.size; rw [World.size_alloc] at h2_; omega) | (have h1_ := hb6.size; have h2_ := hb7.size; rw [World.size_alloc] at h1_ ⊢; omega)) hS8 HOX.out (by have h1_ := HQW.out; have h2_ := hB8.size; omega) HG.out (by have := HBD.out; have := HDL.out; omega) (by have := HN.out; omega)).mono ?_
              rintro e w8 ⟨rfl, O8, hi8, hf8, hn8⟩
              have hIg := hIf.fr hf8 HOX.out
              have hf9 : Fr Ox wr w8 := (Fr.of_below hB8).trans (Nw.refl _ _) hf8
              have hn9 : Nw Ox O8 wr := Nw.trans (Nw.refl _ _) hB8.size hn8
              try dsimp only
              refine hK.out _ _ hIg (fun hHeld => ?_)
              clear hK K
              try simp only [Act.put, List.setIfInBounds_toArray, List.set_cons_zero, List.set_cons_succ]
              refine wpAnyH_done (by kernel_rfl) ?_ _
              go_wp2
              go_ret
              exact ⟨rfl, O8, hi8, HFX.out.trans HNX.out hf9, HNX.out.trans HFX.out.size hn9⟩
          | false =>
            have HL2 := Aside0.mk (show cwL (fun x s => cwF F n many m (d ++ [(x : Int)]) (x + 1) s) k1 (x + 1) s1 = some (b, s') by simpa using hl)
            clear hl
            go_upto_region 6 with fail
            refine wp_region_held_drew (S := ChI q g lb (n : Int) (many : Int)) (by kernel_rfl) hCa (fun hHeld => ?_)
            refine wpAnyH_take (i := 0) (oi := ?oimB0) (v := (.func (.func 66) #[] #[.pointer (some ⟨q + 1, 0, none⟩), .pointer (some ⟨q + 2, 0, none⟩), .pointer (some ⟨q, 0, none⟩), .pointer (some ⟨q + 3, 0, none⟩)])) ?himB0 (by kernel_rfl) (by kernel_rfl) (by kernel_rfl) ?hQmB0 ?hymB0 hHeld ?hmB0
            case himB0 => (simp only [List.getElem?_toArray, List.getElem?_cons_succ, List.getElem?_cons_zero]; rfl)
            case hQmB0 => exact fun _ _ _ h => h
            case hymB0 => exact Or.inl ⟨by rfl, by intro w_ hSw; have h_ := ch_cell (ChI.ca hSw); first | (go_simp; done) | (go_simp; with_reducible rfl)⟩
            try simp only [Act.put, List.setIfInBounds_toArray, List.set_cons_zero, List.set_cons_succ]
            refine wpAnyH_take (i := 1) (oi := ?oimB1) (v := ?vmB1) ?himB1 (by kernel_rfl) (by kernel_rfl) (by kernel_rfl) ?hQmB1 ?hymB1 hHeld ?hmB1
            case himB1 => (simp only [List.getElem?_toArray, List.getElem?_cons_succ, List.getElem?_cons_zero]; rfl)
            case hQmB1 => exact fun _ _ _ h => h
            case hymB1 => exact Or.inl ⟨by rfl, by intro w_ hSw; (try dsimp only at hSw); first | (go_simp; done) | (go_simp; with_reducible rfl)⟩
            try simp only [Act.put, List.setIfInBounds_toArray, List.set_cons_zero, List.set_cons_succ]
            refine wpAnyH_take (i := 3) (oi := ?oimB3) (v := ?vmB3) ?himB3 (by kernel_rfl) (by kernel_rfl) (by kernel_rfl) ?hQmB3 ?hymB3 hHeld ?hmB3
            case himB3 => (simp only [List.getElem?_toArray, List.getElem?_cons_succ, List.getElem?_cons_zero]; rfl)
            case hQmB3 => exact fun _ _ _ h => h
            case hymB3 => exact Or.inl ⟨by rfl, by intro w_ hSw; (try dsimp only at hSw); first | (go_simp; done) | (go_simp; with_reducible rfl)⟩
            try simp only [Act.put, List.setIfInBounds_toArray, List.set_cons_zero, List.set_cons_succ]
            refine wpAnyH_take (i := 6) (oi := ?oimB6) (v := ?vmB6) ?himB6 (by kernel_rfl) (by kernel_rfl) (by kernel_rfl) ?hQmB6 ?hymB6 hHeld ?hmB6
            case himB6 => (simp only [List.getElem?_toArray, List.getElem?_cons_succ, List.getElem?_cons_zero]; rfl)
            case hQmB6 => exact fun _ _ _ h => h
            case hymB6 => exact Or.inl ⟨by rfl, by intro w_ hSw; (try dsimp only at hSw); first | (go_simp; done) | (go_simp; with_reducible rfl)⟩
            try simp only [Act.put, List.setIfInBounds_toArray, List.set_cons_zero, List.set_cons_succ]
            refine wpAnyH_take (i := 7) (oi := ?oimB7) (v := ?vmB7) ?himB7 (by kernel_rfl) (by kernel_rfl) (by kernel_rfl) ?hQmB7 ?hymB7 hHeld ?hmB7
            case himB7 => (simp only [List.getElem?_toArray, List.getElem?_cons_succ, List.getElem?_cons_zero]; rfl)
            case hQmB7 => exact fun _ _ _ h => h
            case hymB7 => exact Or.inl ⟨by rfl, by intro w_ hSw; (try dsimp only at hSw); first | (go_simp; done) | (go_simp; with_reducible rfl)⟩
            try simp only [Act.put, List.setIfInBounds_toArray, List.set_cons_zero, List.set_cons_succ]
            have hRd5 := Kd.R_drew HRD.out
            refine wpAnyH_ready (rs := [2, 4]) (by kernel_rfl) (by simp) ?_
            refine AllReadyH.cons (o := ?ocmBX2) ?hcmBX2 (fun K hK => ?hkmBX2) ?hmmBX
            case hcmBX2 => (simp only [List.getElem?_toArray, List.getElem?_cons_succ, List.getElem?_cons_zero]; rfl)
            case hkmBX2 =>
              go_simp
              go_at_call 67
              refine (slices_Clone_int_int.calls Ad cd d d _ (Kd.R_reads' hRd5).2.2 HLD.out HCL.out).mono ?_
              rintro e w6 ⟨v6, rfl, ho6, hb6⟩
              have hb6' : Below wr.heap.size wr w6 := below_step (below_drew (Below.refl _ _)) hb6
              have hIc := hCa.below hb6
              try dsimp only
              refine hK.out _ _ hIc (fun hHeld => ?_)
              clear hK K
              try simp only [Act.put, List.setIfInBounds_toArray, List.set_cons_zero, List.set_cons_succ]
              refine wpAnyH_ready (rs := [4]) (by kernel_rfl) (by simp) ?_
              refine AllReadyH.cons (o := ?ocmBX4) ?hcmBX4 (fun K hK => ?hkmBX4) AllReadyH.nil
              case hcmBX4 => (simp only [List.getElem?_toArray, List.getElem?_cons_succ, List.getElem?_cons_zero]; rfl)
              go_simp
              have hbl : Below w6.heap.size w6 (w6.alloc (.cells #[.int .i64 (x : Int)] 3)) := below_alloc (Below.refl _ _) _
              have hId := hIc.below hbl
              have hB7 : Below wr.heap.size wr (w6.alloc (.cells #[.int .i64 (x : Int)] 3)) := below_step hb6' hbl
              refine hK.out _ _ hId (fun hHeld => ?_)
              clear hK K
              try simp only [Act.put, List.setIfInBounds_toArray, List.set_cons_zero, List.set_cons_succ]
              have hcell : (w6.alloc (.cells #[.int .i64 (x : Int)] 3)).cell? ((⟨w6.heap.size, 0, none⟩ : Addr).add 0) = some (.int .i64 (x : Int)) := by rw [show ((⟨w6.heap.size, 0, none⟩ : Addr).add 0) = ⟨w6.heap.size, 0, none⟩ from rfl]; exact ch_cell (blk_new w6 _)
              have hR6 := Kd.R_below ho6 hbl
              have hbs : wr.heap.size ≤ wr.drew.heap.size := by
                have h3_ : wr.drew.heap.size = wr.heap.size := rfl
                (try rw [World.size_alloc]); omega
              refine wpAnyH_ready (rs := [5]) (by kernel_rfl) (by simp) ?_
              refine AllReadyH.cons (o := ?ocmBX5) ?hcmBX5 (fun K hK => ?hkmBX5) AllReadyH.nil
              case hcmBX5 => (simp only [List.getElem?_toArray, List.getElem?_cons_succ, List.getElem?_cons_zero]; rfl)
              refine app1_step (by rfl) (.tmp 25) (.tmp 27) (by rfl) (wr.drew.heap.size) v6 d (x : Int) ⟨w6.heap.size, 0, none⟩ rfl rfl hR6 hcell (by have := HBD.out; omega) (by first | exact hb6.size | (rw [World.size_alloc]; have := hb6.size; omega)) ?_
              intro v7 w7 ho7 hg7 hb7
              rw [← HDX.out] at ho7
              obtain ⟨A7, c7, e7⟩ := Kd.R_slice ho7
              subst e7
              have hB8 : Below wr.heap.size wr w7 := ⟨hb7.os.trans hB7.os, hb7.tape.trans hB7.tape, hb7.output.trans hB7.output, Nat.le_trans hB7.size hb7.size, fun k hk => (hb7.block k (by omega)).trans (hB7.block k hk)⟩
              have hIf := HCI.out.below hB8
              have hS8 := hI _ _ _ _ HIX.out hB8
              refine hK.out _ _ hIf (fun hHeld => ?_)
              clear hK K
              try simp only [Act.put, List.setIfInBounds_toArray, List.set_cons_zero, List.set_cons_succ]
              refine wpAnyH_ready (rs := [8]) (by kernel_rfl) (by simp) ?_
              refine AllReadyH.cons (o := ?ocmBX8) ?hcmBX8 (fun K hK => ?hkmBX8) AllReadyH.nil
              case hcmBX8 => (simp only [List.getElem?_toArray, List.getElem?_cons_succ, List.getElem?_cons_zero]; rfl)
              go_simp
              simp only [i64_w, E1.out]
              go_at_fn 66
              refine (IH dx (x + 1) sx s1 false w7 (wr.drew.heap.size) A7 c7 Ox hIf (row_new ho7 (fun i hi => Nat.lt_of_lt_of_le (hO _ _ _ HIX.out i hi) hbs)) (by first | exact Nat.le_trans hb6.size hb7.size | (have h1_ := hb6.size; have h2_ := hb7.size; rw [World.size_alloc] at h2_; omega) | (have h1_ := hb6.size; have h2_ := hb7.size; rw [World.size_alloc] at h1_ ⊢; omega)) hS8 HOX.out (by have h1_ := HQW.out; have h2_ := hB8.size; omega) HG.out (by have := HBD.out; have := HDL.out; omega) (by have := HN.out; omega)).mono ?_
              rintro e w8 ⟨rfl, O8, hi8, hf8, hn8⟩
              have hIg := hIf.fr hf8 HOX.out
              have hf9 : Fr Ox wr w8 := (Fr.of_below hB8).trans (Nw.refl _ _) hf8
              have hn9 : Nw Ox O8 wr := Nw.trans (Nw.refl _ _) hB8.size hn8
              try dsimp only
              refine hK.out _ _ hIg (fun hHeld => ?_)
              clear hK K
              try simp only [Act.put, List.setIfInBounds_toArray, List.set_cons_zero, List.set_cons_succ]
              refine wpAnyH_done (by kernel_rfl) ?_ _
              go_wp2
              go_roundg k1
              case measure => omega
              case rel => exact ⟨x + 1, s1, O8, by first | rfl | rw [E1.out], ⟨by have := HK.out; omega, by have := HN.out; omega⟩, HL2, ⟨hIg⟩, ⟨row_fr HRD.out hf9 hn9⟩, ⟨hi8⟩, ⟨fun i h_ => (hn9 i h_).elim (HOX.out i) (fun h2_ => .inr (by have := HQW.out; omega))⟩, ⟨HFX.out.trans HNX.out hf9⟩, ⟨HNX.out.trans HFX.out.size hn9⟩⟩
            case hmmBX =>
              refine AllReadyH.cons (o := ?ocmBY4) ?hcmBY4 (fun K hK => ?hkmBY4) AllReadyH.nil
              case hcmBY4 => (simp only [List.getElem?_toArray, List.getElem?_cons_succ, List.getElem?_cons_zero]; rfl)
              go_simp
              have hbl : Below wr.drew.heap.size wr.drew (wr.drew.alloc (.cells #[.int .i64 (x : Int)] 3)) := below_alloc (Below.refl _ _) _
              have hIc := hCa.below hbl
              refine hK.out _ _ hIc (fun hHeld => ?_)
              clear hK K
              try simp only [Act.put, List.setIfInBounds_toArray, List.set_cons_zero, List.set_cons_succ]
              refine wpAnyH_ready (rs := [2]) (by kernel_rfl) (by simp) ?_
              refine AllReadyH.cons (o := ?ocmBY2) ?hcmBY2 (fun K hK => ?hkmBY2) AllReadyH.nil
              case hcmBY2 => (simp only [List.getElem?_toArray, List.getElem?_cons_succ, List.getElem?_cons_zero]; rfl)
              go_simp
              go_at_call 67
              refine (slices_Clone_int_int.calls Ad cd d d _ (Kd.R_reads' (Kd.R_below hRd5 hbl)).2.2 HLD.out HCL.out).mono ?_
              rintro e w6 ⟨v6, rfl, ho6, hb6⟩
              have hId := hIc.below hb6
              have hB7 : Below wr.heap.size wr w6 := below_step (below_step (below_drew (Below.refl _ _)) hbl) hb6
              try dsimp only
              refine hK.out _ _ hId (fun hHeld => ?_)
              clear hK K
              try simp only [Act.put, List.setIfInBounds_toArray, List.set_cons_zero, List.set_cons_succ]
              have hcell : w6.cell? ((⟨wr.drew.heap.size, 0, none⟩ : Addr).add 0) = some (.int .i64 (x : Int)) := by rw [show ((⟨wr.drew.heap.size, 0, none⟩ : Addr).add 0) = ⟨wr.drew.heap.size, 0, none⟩ from rfl]; exact ch_cell ((hb6.block _ (by rw [World.size_alloc]; omega)).trans (blk_new wr.drew _))
              have hR6 := ho6
              have hbs : wr.heap.size ≤ (wr.drew.alloc (.cells #[.int .i64 (x : Int)] 3)).heap.size := by
                have h3_ : wr.drew.heap.size = wr.heap.size := rfl
                (try rw [World.size_alloc]); omega
              refine wpAnyH_ready (rs := [5]) (by kernel_rfl) (by simp) ?_
              refine AllReadyH.cons (o := ?ocmBY5) ?hcmBY5 (fun K hK => ?hkmBY5) AllReadyH.nil
              case hcmBY5 => (simp only [List.getElem?_toArray, List.getElem?_cons_succ, List.getElem?_cons_zero]; rfl)
              refine app1_step (by rfl) (.tmp 25) (.tmp 27) (by rfl) ((wr.drew.alloc (.cells #[.int .i64 (x : Int)] 3)).heap.size) v6 d (x : Int) ⟨wr.drew.heap.size, 0, none⟩ rfl rfl hR6 hcell (by have := HBD.out; omega) (by first | exact hb6.size | (rw [World.size_alloc]; have := hb6.size; omega)) ?_
              intro v7 w7 ho7 hg7 hb7
              rw [← HDX.out] at ho7
              obtain ⟨A7, c7, e7⟩ := Kd.R_slice ho7
              subst e7
              have hB8 : Below wr.heap.size wr w7 := ⟨hb7.os.trans hB7.os, hb7.tape.trans hB7.tape, hb7.output.trans hB7.output, Nat.le_trans hB7.size hb7.size, fun k hk => (hb7.block k (by omega)).trans (hB7.block k hk)⟩
              have hIf := HCI.out.below hB8
              have hS8 := hI _ _ _ _ HIX.out hB8
              refine hK.out _ _ hIf (fun hHeld => ?_)
              clear hK K
              try simp only [Act.put, List.setIfInBounds_toArray, List.set_cons_zero, List.set_cons_succ]
              refine wpAnyH_ready (rs := [8]) (by kernel_rfl) (by simp) ?_
              refine AllReadyH.cons (o := ?ocmBY8) ?hcmBY8 (fun K hK => ?hkmBY8) AllReadyH.nil
              case hcmBY8 => (simp only [List.getElem?_toArray, List.getElem?_cons_succ, List.getElem?_cons_zero]; rfl)
              go_simp
              simp only [i64_w, E1.out]
              go_at_fn 66
              refine (IH dx (x + 1) sx s1 false w7 ((wr.drew.alloc (.cells #[.int .i64 (x : Int)] 3)).heap.size) A7 c7 Ox hIf (row_new ho7 (fun i hi => Nat.lt_of_lt_of_le (hO _ _ _ HIX.out i hi) hbs)) (by first | exact Nat.le_trans hb6.size hb7.size | (have h1_ := hb6.size; have h2_ := hb7.size; rw [World.size_alloc] at h2_; omega) | (have h1_ := hb6.size; have h2_ := hb7.size; rw [World.size_alloc] at h1_ ⊢; omega)) hS8 HOX.out (by have h1_ := HQW.out; have h2_ := hB8.size; omega) HG.out (by have := HBD.out; have := HDL.out; omega) (by have := HN.out; omega)).mono ?_
              rintro e w8 ⟨rfl, O8, hi8, hf8, hn8⟩
              have hIg := hIf.fr hf8 HOX.out
              have hf9 : Fr Ox wr w8 := (Fr.of_below hB8).trans (Nw.refl _ _) hf8
              have hn9 : Nw Ox O8 wr := Nw.trans (Nw.refl _ _) hB8.size hn8
              try dsimp only
              refine hK.out _ _ hIg (fun hHeld => ?_)
              clear hK K
              try simp only [Act.put, List.setIfInBounds_toArray, List.set_cons_zero, List.set_cons_succ]
              refine wpAnyH_done (by kernel_rfl) ?_ _
              go_wp2
              go_roundg k1
              case measure => omega
              case rel => exact ⟨x + 1, s1, O8, by first | rfl | rw [E1.out], ⟨by have := HK.out; omega, by have := HN.out; omega⟩, HL2, ⟨hIg⟩, ⟨row_fr HRD.out hf9 hn9⟩, ⟨hi8⟩, ⟨fun i h_ => (hn9 i h_).elim (HOX.out i) (fun h2_ => .inr (by have := HQW.out; omega))⟩, ⟨HFX.out.trans HNX.out hf9⟩, ⟨HNX.out.trans HFX.out.size hn9⟩⟩
        · obtain rfl : gk = 0 := by have := HK.out; omega
          have d1 : decide (x < n) = false := decide_eq_false hx
          have hl := HL.out
          simp only [cwL] at hl
          have h' := Option.some.inj hl
          simp only [Prod.mk.injEq] at h'
          obtain ⟨rfl, rfl⟩ := h'
          clear hl
          go_wp2
          go_ret
          exact ⟨rfl, Ox, HIX.out, HFX.out, HNX.out⟩
set_option maxHeartbeats 16000000 in
set_option maxRecDepth 100000 in
theorem choose_calls {σ : Type} (g : Nat) (lb : Array Value) (eg : ∀ args w, (callFunc g args).run Try.prog w = .ok (.enter g args) w) (F : List Int → σ → Option (Bool × σ)) (I : σ → (Nat → Prop) → World → Prop)
    (hI : ∀ s O W W', I s O W → Below W.heap.size W W' → I s O W') (hO : ∀ s O W, I s O W → ∀ i, O i → i < W.heap.size) (ht : Steps Try.prog g lb F I) (n many : Nat) (hn : n ≤ 800) (hm : many ≤ 800) (s s' : σ) (b : Bool) (W : World) (O : Nat → Prop) (hs : I s O W) (h : cwF F n many (many + 1) [] 0 s = some (b, s')) :
    Calls Try.prog 43 #[.int .i64 (n : Int), .int .i64 (many : Int), .func (.func g) #[] lb] W fun e w' => e = .returned (.tuple #[]) ∧ ∃ O', I s' O' w' ∧ Fr O W w' ∧ Nw O O' W := by
  have eg66 : ∀ args w, (callFunc 66 args).run Try.prog w = .ok (.enter 66 args) w := enters_of Try.func66 (by kernel_rfl) rfl
  obtain ⟨W4, hW4⟩ : ∃ W4, W4 = (((W.alloc (.cells #[.int .i64 (n : Int)] 3)).alloc (.cells #[.int .i64 (many : Int)] 3)).alloc (.cells #[.func (.func g) #[] lb] 40)).alloc (.cells #[.func (.func 66) #[] #[.pointer (some ⟨W.heap.size + 1, 0, none⟩), .pointer (some ⟨W.heap.size + 2, 0, none⟩), .pointer (some ⟨W.heap.size, 0, none⟩), .pointer (some ⟨W.heap.size + 3, 0, none⟩)]] 66) := ⟨_, rfl⟩
  have z1 := blk_new W (.cells #[.int .i64 (n : Int)] 3)
  have z2 := blk_new (W.alloc (.cells #[.int .i64 (n : Int)] 3)) (.cells #[.int .i64 (many : Int)] 3)
  have z3 := blk_new ((W.alloc (.cells #[.int .i64 (n : Int)] 3)).alloc (.cells #[.int .i64 (many : Int)] 3)) (.cells #[.func (.func g) #[] lb] 40)
  have z4 := blk_new (((W.alloc (.cells #[.int .i64 (n : Int)] 3)).alloc (.cells #[.int .i64 (many : Int)] 3)).alloc (.cells #[.func (.func g) #[] lb] 40)) (.cells #[.func (.func 66) #[] #[.pointer (some ⟨W.heap.size + 1, 0, none⟩), .pointer (some ⟨W.heap.size + 2, 0, none⟩), .pointer (some ⟨W.heap.size, 0, none⟩), .pointer (some ⟨W.heap.size + 3, 0, none⟩)]] 66)
  rw [World.size_alloc, World.size_alloc, World.size_alloc] at z4
  rw [World.size_alloc, World.size_alloc] at z3
  rw [World.size_alloc] at z2
  have hC : ChI W.heap.size g lb (n : Int) (many : Int) W4 := by
    rw [hW4]
    exact ⟨blk_alloc (blk_alloc (blk_alloc z1 _) _) _, blk_alloc (blk_alloc z2 _) _, blk_alloc z3 _, z4⟩
  have hB4 : Below W.heap.size W W4 := by rw [hW4]; exact below_alloc (below_alloc (below_alloc (below_alloc (Below.refl _ _) _) _) _) _
  have hs4 : W4.heap.size = W.heap.size + 4 := by rw [hW4]; simp only [World.size_alloc]
  have HC := Aside0.mk hC
  have HS4 := Aside0.mk hs4
  have HB4 := Aside0.mk hB4
  have HI := Aside0.mk (hI _ _ _ _ hs hB4)
  have HOL := Aside0.mk (hO _ _ _ hs)
  have H := Aside0.mk h
  clear h z1 z2 z3 z4 hC hs4 hB4 hs
  go_enter Try.func43, Try.ntmps43
  go_upto_region 3 with fail
  simp only [Nat.add_assoc, Nat.reduceAdd]
  rw [← hW4]
  clear hW4
  have q4 := ch_cell HC.out.ca
  go_wp2_with (first
    | ((with_reducible refine gate_dst (N := 9) rfl ?_); refine Kd.R_lit (Kd.int .i64) (w0 := W4) W4.heap.size 3 ?hg (N := 9) ?hd (xs := ([] : List Int)) (inner := []) (ok := fun _ => True) (okp := fun _ => True) ?hr ?hp (fun _ hk => hk) trivial (Below.refl _ _) (Nat.le_refl _) (by simp) ?_; (case hd => rfl); (case hg => rfl); (case hr => first | (go_simp; done) | (go_simp; rfl)); (case hp => exact (Reps.none _ _)); intro v9 w9 ho9 hb9 hg_ hnew_; clear hg_ hnew_; obtain ⟨A9, c9, e9⟩ := Kd.R_slice ho9; subst e9; have HO9 := Aside0.mk ho9; have HB9 := Aside0.mk hb9; clear ho9 hb9)
    | (go_at_fn 66; (refine (add_calls g lb eg F I hI hO ht W.heap.size n many (by omega) hm (many + 1) [] 0 s s' b _ W4.heap.size A9 c9 O (HC.out.below HB9.out) (row_new HO9.out (fun i hi => by have h1_ := HOL.out i hi; have h2_ := HS4.out; omega)) HB9.out.size (hI _ _ _ _ HI.out HB9.out) (fun i hi => .inl (HOL.out i hi)) (by have h1_ := HS4.out; have h2_ := HB9.out.size; omega) H.out (by simp; omega) (by omega)).mono ?_); rintro e w10 ⟨rfl, O10, hi10, hf10, hn10⟩; have HI10 := Aside0.mk hi10; have HF10 := Aside0.mk hf10; have HN10 := Aside0.mk hn10; clear hi10 hf10 hn10))
  refine bodyPost_end (results_none rfl _ _ _) rfl ?_
  have hb := below_step HB4.out HB9.out
  exact ⟨rfl, O10, HI10.out, (Fr.of_below hb).trans (Nw.refl _ _) HF10.out, Nw.trans (Nw.refl _ _) hb.size HN10.out⟩
theorem below_step' {w0 W W2 W3 : World} (h : Below w0.heap.size w0 W) (h2 : Below W.heap.size W W2) (h3 : Below w0.heap.size W2 W3) : Below w0.heap.size w0 W3 := by
  have h4 := below_step h h2
  exact ⟨h3.os.trans h4.os, h3.tape.trans h4.tape, h3.output.trans h4.output, Nat.le_trans h4.size h3.size, fun i hi => (h3.block i hi).trans (h4.block i hi)⟩
theorem mn_cell_of_two {w : World} {b e : Nat} {v0 v1 : Value} (h : w.heap[b]? = some (.cells #[v0, v1] e (0, 0))) : w.cell? ⟨b, 0, none⟩ = some v0 ∧ w.cell? ⟨b, 1, none⟩ = some v1 := by
  constructor <;> simp [World.cell?, h]
theorem mn_free_of_two {w : World} {b e : Nat} {v0 v1 : Value} (h : w.heap[b]? = some (.cells #[v0, v1] e (0, 0))) : w.frozen? ⟨b, 0, none⟩ = false ∧ w.frozen? ⟨b, 1, none⟩ = false := by
  constructor <;> simp [World.frozen?, h]
/-- A function value that tells F of lists, in worlds with S; it may lay blocks. -/
def TellsI (P : Program) (g : Nat) (lb : Array Value) (F : List Int → Option Int) (S : World → Prop) : Prop :=
  ∀ (W : World) (A : Option Addr) (c : Nat) (l : List Int) (r : Int), Kd.C (Kd.int .i64) W A l.length l → l.length ≤ c → F l = some r → S W → Calls P g (#[.slice A l.length c] ++ lb) W fun e w' => e = .returned (.int .i64 r) ∧ Below W.heap.size W w'
theorem TellsI.at_ {P : Program} {g : Nat} {lb : Array Value} {F : List Int → Option Int} {S : World → Prop} (h : TellsI P g lb F S) (W : World) (A : Option Addr) (c : Nat) (l : List Int) (r : Int) (hC : Kd.C (Kd.int .i64) W A l.length l) (hc : l.length ≤ c) (hF : F l = some r) (hW : S W) : Calls P g (#[.slice A l.length c] ++ lb) W fun e w' => e = .returned (.int .i64 r) ∧ Below W.heap.size W w' := h W A c l r hC hc hF hW
def TellsB (P : Program) (g : Nat) (lb : Array Value) (F : List Int → Option Bool) (S : World → Prop) : Prop :=
  ∀ (W : World) (A : Option Addr) (c : Nat) (l : List Int) (r : Bool), Kd.C (Kd.int .i64) W A l.length l → l.length ≤ c → F l = some r → S W → Calls P g (#[.slice A l.length c] ++ lb) W fun e w' => e = .returned (.bool r) ∧ Below W.heap.size W w'
theorem TellsB.at_ {P : Program} {g : Nat} {lb : Array Value} {F : List Int → Option Bool} {S : World → Prop} (h : TellsB P g lb F S) (W : World) (A : Option Addr) (c : Nat) (l : List Int) (r : Bool) (hC : Kd.C (Kd.int .i64) W A l.length l) (hc : l.length ≤ c) (hF : F l = some r) (hW : S W) : Calls P g (#[.slice A l.length c] ++ lb) W fun e w' => e = .returned (.bool r) ∧ Below W.heap.size W w' := h W A c l r hC hc hF hW
def meanL (F : List Int → Option Int) : List (List Int) → Int → Option Int
  | [], s => some s
  | o :: t, s => (F o).bind fun x => meanL F t (wrap64 (s + x))
theorem meanL_le {F G : List Int → Option Int} (h : ∀ l, LeO (F l) (G l)) : ∀ l s, LeO (meanL F l s) (meanL G l s)
  | [], _ => LeO.refl _
  | o :: t, s => LeO.bind (h o) fun _ => meanL_le h t _
def meanF (k : Nat) (F : List Int → Option Int) (n : Int) : Option (Int × Int) := (impl_allOrders.f k n).bind fun l => if l.length < 1000000 then (meanL F l 0).bind fun s => (impl_factorial.f k n).bind fun d => impl_fraction.f k s d else none
theorem meanF_le {k : Nat} {F G : List Int → Option Int} (h : ∀ l, LeO (F l) (G l)) (n : Int) : LeO (meanF k F n) (meanF (k + 1) G n) :=
  LeO.bind (impl_allOrders.mono _ _) fun _ => LeO.ite (LeO.bind (meanL_le h _ _) fun _ => LeO.bind (impl_factorial.mono _ _) fun _ => impl_fraction.mono _ _ _) (LeO.none _)
def rdL (l : List (List Int)) (i : Nat) : List Int := l.getD i []
theorem rdL_drop (l : List (List Int)) (i : Nat) (h : i < l.length) : l.drop i = rdL l i :: l.drop (i + 1) := by
  unfold rdL
  rw [List.drop_eq_getElem_cons h]
  simp [h]
theorem at_rows {w : World} {A : Option Addr} {n : Nat} {xs : List (List Int)} (h : Kd.C (Kd.slice 3 (Kd.int .i64)) w A n xs) (i : Nat) (h1 : i < n) : ∃ ad A0 c0, A = some ad ∧ w.cell? (ad.add i) = some (.slice A0 (rdL xs i).length c0) ∧ (rdL xs i).length ≤ c0 ∧ (Kd.int .i64).C w A0 (rdL xs i).length (rdL xs i) := by
  obtain ⟨ad, c, e, _, hK, hc0⟩ := Kd.C_get h ([] : List Int) (i : Int) (by omega) (by omega)
  rw [Int.toNat_natCast] at hK hc0
  have hc : ∀ j u, c[j]? = some u → w.cell? (ad.add (i * 1 + j)) = some u := hc0
  obtain ⟨A0, c0, rfl, l0, g0⟩ := hK
  exact ⟨ad, A0, c0, e, by have hq := hc 0 _ rfl; rwa [Nat.mul_one, Nat.add_zero] at hq, l0, g0⟩
set_option maxHeartbeats 8000000 in
set_option maxRecDepth 100000 in
theorem mean_calls (k : Nat) (g : Nat) (lb : Array Value) (eg : ∀ args w, (callFunc g args).run Try.prog w = .ok (.enter g args) w) (F : List Int → Option Int) (S : World → Prop) (hS : ∀ W W' : World, S W → Below W.heap.size W W' → S W')
    (ht : TellsI Try.prog g lb F S) (n : Int) (r1 r2 : Int) (w : World) (h : meanF k F n = some (r1, r2)) (h0 : S w) :
    Calls Try.prog 42 #[.int .i64 n, .func (.func g) #[] lb] w fun e w' => e = .returned (.agg #[.int .i64 r1, .int .i64 r2]) ∧ Below w.heap.size w w' := by
  obtain ⟨l, hl, h⟩ := Option.bind_eq_some_iff.1 h
  have hlen : l.length < 1000000 := by
    rcases Nat.lt_or_ge l.length 1000000 with h0 | h0
    · exact h0
    · rw [if_neg (by omega)] at h
      cases h
  rw [if_pos hlen] at h
  obtain ⟨s, hs, h⟩ := Option.bind_eq_some_iff.1 h
  obtain ⟨d, hd, h⟩ := Option.bind_eq_some_iff.1 h
  have hu := Try.underlying22
  have HL := Aside0.mk hl
  have HLEN := Aside0.mk hlen
  have HSUM := Aside0.mk hs
  have HD := Aside0.mk hd
  have HF := Aside0.mk h
  have HT := Aside0.mk ht
  have HS := Aside0.mk hS
  have H0 := Aside0.mk h0
  have HB0 := Aside0.mk (Below.refl w.heap.size w)
  clear hl hlen hs hd h ht hS h0
  go_enter Try.func42, Try.ntmps42
  go_wp2_with (first
    | (go_at_call 63; (refine (impl_allOrders.calls k n l _ HL.out).mono ?_); rintro e w6 ⟨v6, rfl, ho, hb⟩; have ho' := Kd.S_R ho; obtain ⟨A6, c6, e6⟩ := Kd.R_slice ho'; subst e6; have HO := Aside0.mk (Kd.R_reads' ho').2.2; have HB := Aside0.mk hb; clear ho ho' hb))
  have HX : Aside0 (w6.heap[w.heap.size]? = some (.cells #[.int .i64 0, .int .i64 0] 22 (0, 0))) := ⟨(HB.out.block _ (by rw [World.size_alloc]; omega)).trans (blk_new w _)⟩
  have HB6 := Aside0.mk (below_step (below_alloc HB0.out _) HB.out)
  clear HB
  go_loopg [5, 11] l.length (fun kq v5 v11 w' => ∃ (i : Nat) (q : Int), v5 = .int .i64 q ∧ v11 = .int .i64 (i : Int) ∧ Aside0 (i + kq = l.length) ∧ Aside0 (meanL F (l.drop i) q = some s) ∧ Aside0 (w'.heap[w.heap.size]? = some (.cells #[.int .i64 0, .int .i64 0] 22 (0, 0))) ∧ Aside0 (Kd.C (Kd.slice 3 (Kd.int .i64)) w' A6 l.length l) ∧ Aside0 (Below w.heap.size w w'))
  case atStart => exact ⟨0, 0, rfl, rfl, ⟨by omega⟩, HSUM, HX, HO, HB6⟩
  case round =>
    clear HO HB6 HX HSUM
    obtain ⟨i, q, rfl, rfl, HK, HSUM, HX, HO, HB⟩ := hrel
    by_cases hi : i < l.length
    · obtain ⟨k1, hk1⟩ : ∃ k1, gk = k1 + 1 := ⟨gk - 1, by have := HK.out; omega⟩
      subst hk1
      have hd0 : decide (0 ≤ (i : Int)) = true := decide_eq_true (by omega)
      have hd1 : decide (i < l.length) = true := decide_eq_true hi
      have hsum := HSUM.out
      rw [rdL_drop l i hi] at hsum
      obtain ⟨x, hx, hsum⟩ := Option.bind_eq_some_iff.1 hsum
      obtain ⟨ad, A0, c0, eA, hcell, hlc, hC⟩ := at_rows HO.out i hi
      subst eA
      have HFX := Aside0.mk hx
      have HSUM2 := Aside0.mk hsum
      have HLC := Aside0.mk hlc
      have HC := Aside0.mk hC
      have E1 := Aside0.mk (show wrap64 ((i : Int) + 1) = ((i + 1 : Nat) : Int) by have := HLEN.out; unfold wrap64; omega)
      clear hx hsum hlc hC HSUM
      generalize rdL l i = o at hcell HFX HLC HC
      go_wp2_with (go_at_fn g; (with_reducible refine (HT.out.at_ _ A0 c0 o x ?_ HLC.out HFX.out ?_).mono ?_); (first | exact HC.out | exact Kd.C_drewN HC.out _ | exact Kd.C_drew HC.out); (exact HS.out _ _ H0.out (by repeat (first | exact HB.out | apply pw_below_drewN | apply below_drew1))); rintro e w7 ⟨rfl, hb⟩; have HB7 := Aside0.mk (below_step HB.out hb); have HX7 := Aside0.mk ((hb.block _ (lt_of_block HX.out)).trans HX.out); have HO7 := Aside0.mk (Kd.C_below HO.out hb); clear hb)
      go_roundg k1
      case measure => omega
      case rel => exact ⟨i + 1, wrap64 (q + x), rfl, by rw [E1.out], ⟨by have := HK.out; omega⟩, HSUM2, HX7, HO7, HB7⟩
    · obtain rfl : i = l.length := by have := HK.out; omega
      have hs := HSUM.out
      rw [List.drop_length] at hs
      obtain rfl := Option.some.inj hs
      have fx := (mn_free_of_two HX.out).1
      have fx1 := (mn_free_of_two HX.out).2
      clear hs HSUM
      go_wp2_with (first
        | (go_at_call 65; (with_reducible refine (impl_factorial.calls k _ d _ HD.out).mono ?_); rintro e w8 ⟨rfl, ⟨nd, rfl⟩⟩)
        | (go_at_call 64; (with_reducible refine (impl_fraction.calls k _ _ r1 r2 _ HF.out).mono ?_); rintro e w9 ⟨rfl, hb⟩; have HB9 := Aside0.mk (below_step HB.out (show Below wr.heap.size wr w9 from ⟨hb.os, hb.tape, hb.output, hb.size, hb.block⟩)); have HX9 := Aside0.mk ((hb.block _ (lt_of_block HX.out)).trans HX.out); have c0 := (mn_cell_of_two HX9.out).1; have c1 := (mn_cell_of_two HX9.out).2; have f0 := (mn_free_of_two HX9.out).1; have f1 := (mn_free_of_two HX9.out).2; clear hb))
      have g0 := blk_put HX9.out 0 (.int .i64 r1) rfl
      have g1 := blk_put g0 1 (.int .i64 r2) rfl
      refine bodyPost_ret (v := .agg #[.int .i64 r1, .int .i64 r2]) ?_ rfl ?_
      · exact results_single (r := .cell 4 22) rfl (.cell w.heap.size 22 #[.int .i64 r1, .int .i64 r2] (0, 0) _ rfl g1 hu rfl (by kernel_rfl) .nil)
      · exact ⟨rfl, below_set (below_set HB9.out (Nat.le_refl _)) (Nat.le_refl _)⟩
/-- The mean, if so many are drawn. -/
def drawnF (k : Nat) (F : List Int → Option Int) (n : Int) (right : Bool) : Option (Int × Int × Bool) := (impl_isDrawn.f n).bind fun t => if (t && right) = true then (meanF k F n).bind fun r => some (r.1, r.2, true) else some (0, 0, false)
theorem drawnF_le {k : Nat} {F G : List Int → Option Int} (h : ∀ l, LeO (F l) (G l)) (n : Int) (right : Bool) : LeO (drawnF k F n right) (drawnF (k + 1) G n right) :=
  LeO.bind (LeO.refl _) fun _ => LeO.ite (LeO.bind (meanF_le h n) fun _ => LeO.refl _) (LeO.refl _)
set_option maxHeartbeats 8000000 in
set_option maxRecDepth 100000 in
theorem drawnMean_calls (k : Nat) (g : Nat) (lb : Array Value) (eg : ∀ args w, (callFunc g args).run Try.prog w = .ok (.enter g args) w) (F : List Int → Option Int) (S : World → Prop) (hS : ∀ W W' : World, S W → Below W.heap.size W W' → S W')
    (ht : TellsI Try.prog g lb F S) (n : Int) (right : Bool) (r1 r2 : Int) (r3 : Bool) (w : World) (h : drawnF k F n right = some (r1, r2, r3)) (h0 : S w) :
    Calls Try.prog 20 #[.int .i64 n, .bool right, .func (.func g) #[] lb] w fun e w' => e = .returned (.tuple #[.agg #[.int .i64 r1, .int .i64 r2], .bool r3]) ∧ Below w.heap.size w w' := by
  obtain ⟨t, ht1, h⟩ := Option.bind_eq_some_iff.1 h
  have hu := Try.underlying22
  have HT1 := Aside0.mk ht1
  have HT := Aside0.mk ht
  have HS := Aside0.mk hS
  have H0 := Aside0.mk h0
  have HB0 := Aside0.mk (below_alloc (Below.refl w.heap.size w) (.cells #[.int .i64 0, .int .i64 0] 22))
  have HX := Aside0.mk (blk_new w (.cells #[.int .i64 0, .int .i64 0] 22))
  clear ht1 ht hS h0
  by_cases hc : (t && right) = true
  · rw [if_pos hc] at h
    obtain ⟨⟨q1, q2⟩, hm, h⟩ := Option.bind_eq_some_iff.1 h
    have h' := Option.some.inj h
    simp only [Prod.mk.injEq] at h'
    obtain ⟨rfl, rfl, rfl⟩ := h'
    have HM := Aside0.mk hm
    simp only [Bool.and_eq_true] at hc
    obtain ⟨rfl, rfl⟩ := hc
    clear h hm
    have fx := (mn_free_of_two HX.out).1
    have fx1 := (mn_free_of_two HX.out).2
    go_enter Try.func20, Try.ntmps20
    go_wp2_with (first
      | (go_at_call 41; (with_reducible refine (impl_isDrawn.calls n true _ HT1.out).mono ?_); rintro e w6 ⟨rfl, ⟨nd, rfl⟩⟩)
      | (go_at_call 42; (refine (mean_calls k g lb eg F S HS.out HT.out n q1 q2 _ HM.out ?_).mono ?_); (exact HS.out _ _ H0.out (by repeat (first | exact HB0.out | apply pw_below_drewN | apply below_drew1))); rintro e w7 ⟨rfl, hb⟩; have HB7 := Aside0.mk (below_step (pw_below_drewN HB0.out _) hb); have HX7 := Aside0.mk ((hb.block _ (lt_of_block HX.out)).trans HX.out); have c0 := (mn_cell_of_two HX7.out).1; have c1 := (mn_cell_of_two HX7.out).2; have f0 := (mn_free_of_two HX7.out).1; have f1 := (mn_free_of_two HX7.out).2; clear hb))
    have g0 := blk_put HX7.out 0 (.int .i64 q1) rfl
    have g1 := blk_put g0 1 (.int .i64 q2) rfl
    refine bodyPost_ret (v := .tuple #[.agg #[.int .i64 q1, .int .i64 q2], .bool true]) ?_ rfl ?_
    · exact results_list (rs := [.cell 6 22, .tmp 7]) rfl (by simp) (.cell w.heap.size 22 #[.int .i64 q1, .int .i64 q2] (0, 0) _ rfl g1 hu rfl (by kernel_rfl) (.tmp .nil))
    · exact ⟨rfl, below_set (below_set HB7.out (Nat.le_refl _)) (Nat.le_refl _)⟩
  · rw [if_neg hc] at h
    have h' := Option.some.inj h
    simp only [Prod.mk.injEq] at h'
    obtain ⟨rfl, rfl, rfl⟩ := h'
    have c0 := (mn_cell_of_two HX.out).1
    have c1 := (mn_cell_of_two HX.out).2
    have f0 := (mn_free_of_two HX.out).1
    have f1 := (mn_free_of_two HX.out).2
    clear h
    cases t with
    | false =>
      clear hc
      go_enter Try.func20, Try.ntmps20
      go_wp2_with (go_at_call 41; (with_reducible refine (impl_isDrawn.calls n false _ HT1.out).mono ?_); rintro e w6 ⟨rfl, ⟨nd, rfl⟩⟩)
      have g0 := blk_put (w := (w.alloc (.cells #[.int .i64 0, .int .i64 0] 22)).drewN nd) HX.out 0 (.int .i64 0) rfl
      have g1 := blk_put g0 1 (.int .i64 0) rfl
      refine bodyPost_ret (v := .tuple #[.agg #[.int .i64 0, .int .i64 0], .bool false]) ?_ rfl ?_
      · exact results_list (rs := [.cell 6 22, .tmp 7]) rfl (by simp) (.cell w.heap.size 22 #[.int .i64 0, .int .i64 0] (0, 0) _ rfl g1 hu rfl (by kernel_rfl) (.tmp .nil))
      · exact ⟨rfl, below_set (below_set (pw_below_drewN HB0.out _) (Nat.le_refl _)) (Nat.le_refl _)⟩
    | true =>
      cases right with
      | true => exact absurd rfl hc
      | false =>
        clear hc
        go_enter Try.func20, Try.ntmps20
        go_wp2_with (go_at_call 41; (with_reducible refine (impl_isDrawn.calls n true _ HT1.out).mono ?_); rintro e w6 ⟨rfl, ⟨nd, rfl⟩⟩)
        have g0 := blk_put (w := (w.alloc (.cells #[.int .i64 0, .int .i64 0] 22)).drewN nd) HX.out 0 (.int .i64 0) rfl
        have g1 := blk_put g0 1 (.int .i64 0) rfl
        refine bodyPost_ret (v := .tuple #[.agg #[.int .i64 0, .int .i64 0], .bool false]) ?_ rfl ?_
        · exact results_list (rs := [.cell 6 22, .tmp 7]) rfl (by simp) (.cell w.heap.size 22 #[.int .i64 0, .int .i64 0] (0, 0) _ rfl g1 hu rfl (by kernel_rfl) (.tmp .nil))
        · exact ⟨rfl, below_set (below_set (pw_below_drewN HB0.out _) (Nat.le_refl _)) (Nat.le_refl _)⟩
def chF (F : List Int → Option Bool) (l : List Int) : Option Int := (F l).bind fun b => if b = true then some 1 else some 0
def ChS (S : World → Prop) (b g : Nat) (lb : Array Value) (W : World) : Prop := S W ∧ W.heap[b]? = some (.cells #[.func (.func g) #[] lb] 40 (0, 0))
set_option maxHeartbeats 8000000 in
set_option maxRecDepth 100000 in
theorem chance_tells (b g : Nat) (lb : Array Value) (eg : ∀ args w, (callFunc g args).run Try.prog w = .ok (.enter g args) w) (F : List Int → Option Bool) (S : World → Prop) (ht : TellsB Try.prog g lb F S) : TellsI Try.prog 52 #[.pointer (some ⟨b, 0, none⟩)] (chF F) (ChS S b g lb) := by
  intro W A c l r hC hc hF hW
  show Calls Try.prog 52 #[.slice A l.length c, .pointer (some ⟨b, 0, none⟩)] W _
  obtain ⟨t, ht1, hF⟩ := Option.bind_eq_some_iff.1 hF
  have hcell : W.cell? ⟨b, 0, none⟩ = some (.func (.func g) #[] lb) := by simp [World.cell?, hW.2]
  have HC := Aside0.mk hC
  have HLC := Aside0.mk hc
  have HT1 := Aside0.mk ht1
  have HT := Aside0.mk ht
  have HW := Aside0.mk hW.1
  clear hC hc ht1 ht hW
  cases t with
  | true =>
    obtain rfl := Option.some.inj hF
    go_enter Try.func52, Try.ntmps52
    go_wp2_with (go_at_fn g; (with_reducible refine (HT.out.at_ _ A c l true HC.out HLC.out HT1.out HW.out).mono ?_); rintro e w7 ⟨rfl, hb⟩; have HB7 := Aside0.mk hb; clear hb)
    go_ret
    exact ⟨rfl, HB7.out⟩
  | false =>
    obtain rfl := Option.some.inj hF
    go_enter Try.func52, Try.ntmps52
    go_wp2_with (go_at_fn g; (with_reducible refine (HT.out.at_ _ A c l false HC.out HLC.out HT1.out HW.out).mono ?_); rintro e w7 ⟨rfl, hb⟩; have HB7 := Aside0.mk hb; clear hb)
    go_ret
    exact ⟨rfl, HB7.out⟩
set_option maxHeartbeats 8000000 in
set_option maxRecDepth 100000 in
theorem drawnChance_calls (k : Nat) (g : Nat) (lb : Array Value) (eg : ∀ args w, (callFunc g args).run Try.prog w = .ok (.enter g args) w) (F : List Int → Option Bool) (S : World → Prop) (hS : ∀ W W' : World, S W → Below W.heap.size W W' → S W')
    (ht : TellsB Try.prog g lb F S) (n : Int) (right : Bool) (r1 r2 : Int) (r3 : Bool) (w : World) (h : drawnF k (chF F) n right = some (r1, r2, r3)) (h0 : S w) :
    Calls Try.prog 28 #[.int .i64 n, .bool right, .func (.func g) #[] lb] w fun e w' => e = .returned (.tuple #[.agg #[.int .i64 r1, .int .i64 r2], .bool r3]) ∧ Below w.heap.size w w' := by
  have hu := Try.underlying22
  have HM := Aside0.mk h
  have HTL := Aside0.mk (chance_tells w.heap.size g lb eg F S ht)
  have HB2 := Aside0.mk (below_alloc (below_alloc (Below.refl w.heap.size w) (.cells #[.func (.func g) #[] lb] 40)) (.cells #[.int .i64 0, .int .i64 0] 22))
  have z1 := blk_alloc (blk_new w (.cells #[.func (.func g) #[] lb] 40)) (.cells #[.int .i64 0, .int .i64 0] 22)
  have z2 := blk_new (w.alloc (.cells #[.func (.func g) #[] lb] 40)) (.cells #[.int .i64 0, .int .i64 0] 22)
  rw [World.size_alloc] at z2
  have HX0 := Aside0.mk z1
  have HX1 := Aside0.mk z2
  have HSS : Aside0 (∀ W W' : World, ChS S w.heap.size g lb W → Below W.heap.size W W' → ChS S w.heap.size g lb W') := ⟨fun W W' h1 h2 => ⟨hS W W' h1.1 h2, (h2.block _ (lt_of_block h1.2)).trans h1.2⟩⟩
  have H0 : Aside0 (ChS S w.heap.size g lb ((w.alloc (.cells #[.func (.func g) #[] lb] 40)).alloc (.cells #[.int .i64 0, .int .i64 0] 22))) := ⟨⟨hS _ _ (hS _ _ h0 (below_alloc (Below.refl w.heap.size w) _)) (below_alloc (Below.refl _ _) _), z1⟩⟩
  have eg2 : ∀ args w, (callFunc 52 args).run Try.prog w = .ok (.enter 52 args) w := enters_of Try.func52 (by kernel_rfl) rfl
  clear z1 z2 h hS ht h0
  go_enter Try.func28, Try.ntmps28
  go_wp2_with (go_at_call 20; (refine (drawnMean_calls k 52 #[.pointer (some ⟨w.heap.size, 0, none⟩)] eg2 (chF F) (ChS S w.heap.size g lb) HSS.out HTL.out n right r1 r2 r3 _ HM.out ?_).mono ?_); (exact H0.out); rintro e w7 ⟨rfl, hb⟩; have HB7 := Aside0.mk (below_step HB2.out hb); have HX7 := Aside0.mk ((hb.block (w.heap.size + 1) (lt_of_block HX1.out)).trans HX1.out); have c0 := (mn_cell_of_two HX7.out).1; have c1 := (mn_cell_of_two HX7.out).2; have f0 := (mn_free_of_two HX7.out).1; have f1 := (mn_free_of_two HX7.out).2; clear hb)
  have g0 := blk_put HX7.out 0 (.int .i64 r1) rfl
  have g1 := blk_put g0 1 (.int .i64 r2) rfl
  refine bodyPost_ret (v := .tuple #[.agg #[.int .i64 r1, .int .i64 r2], .bool r3]) ?_ rfl ?_
  · exact results_list (rs := [.cell 6 22, .tmp 7]) rfl (by simp) (.cell (w.heap.size + 1) 22 #[.int .i64 r1, .int .i64 r2] (0, 0) _ rfl g1 hu rfl (by kernel_rfl) (.tmp .nil))
  · exact ⟨rfl, below_set (below_set HB7.out (by show w.heap.size ≤ w.heap.size + 1; omega)) (by show w.heap.size ≤ w.heap.size + 1; omega)⟩

/-- What firstPlaces' closure does with a list of places. -/
def fpF (k : Nat) (l p : List Int) (places : List Int) (_f : Bool) : Option (Bool × Bool) := (impl_at.f k l places).bind fun o => (impl_shape.f k o).bind fun s => (slices_Equal_int_int.f k s p).bind fun b => some (b, b)
/-- The worlds in which firstPlaces' cells lie from block b0 on. -/
structure FpI (w0 : World) (A : Option Addr) (c : Nat) (l : List Int) (Ap : Option Addr) (cp : Nat) (p : List Int) (b0 : Nat) (f : Bool) (O : Nat → Prop) (W : World) : Prop where
  e0 : b0 = w0.heap.size
  be : Below w0.heap.size w0 W
  co : W.heap[b0]? = some (.cells #[.slice A l.length c] 36 (0, 0))
  cp_ : W.heap[b0 + 1]? = some (.cells #[.slice Ap p.length cp] 36 (0, 0))
  cu : ∃ v : Value, W.heap[b0 + 2]? = some (.cells #[v] 36 (0, 0))
  cf : W.heap[b0 + 3]? = some (.cells #[.bool f] 4 (0, 0))
  hC : Kd.C (Kd.int .i64) w0 A l.length l
  hc : l.length ≤ c
  hCp : Kd.C (Kd.int .i64) w0 Ap p.length p
  hcp : p.length ≤ cp
  hO : ∀ i, O i ↔ i = b0 + 2 ∨ i = b0 + 3
section
variable {w0 W W2 : World} {A Ap : Option Addr} {c cp b0 : Nat} {l p : List Int} {f : Bool} {O : Nat → Prop}
theorem FpI.below (h : FpI w0 A c l Ap cp p b0 f O W) (hb : Below W.heap.size W W2) : FpI w0 A c l Ap cp p b0 f O W2 :=
  ⟨h.e0, below_step h.be hb, (hb.block _ (lt_of_block h.co)).trans h.co, (hb.block _ (lt_of_block h.cp_)).trans h.cp_, ⟨h.cu.choose, (hb.block _ (lt_of_block h.cu.choose_spec)).trans h.cu.choose_spec⟩, (hb.block _ (lt_of_block h.cf)).trans h.cf, h.hC, h.hc, h.hCp, h.hcp, h.hO⟩
theorem FpI.lt (h : FpI w0 A c l Ap cp p b0 f O W) : ∀ i, O i → i < W.heap.size := fun i hi => by
  rcases (h.hO i).1 hi with rfl | rfl
  · exact lt_of_block h.cu.choose_spec
  · exact lt_of_block h.cf
end
set_option maxHeartbeats 8000000 in
set_option maxRecDepth 100000 in
theorem first1_steps (k : Nat) (w0 : World) (A : Option Addr) (c : Nat) (l : List Int) (Ap : Option Addr) (cp : Nat) (p : List Int) (b0 : Nat) : Steps Try.prog 84 #[.pointer (some ⟨b0, 0, none⟩), .pointer (some ⟨b0 + 1, 0, none⟩), .pointer (some ⟨b0 + 3, 0, none⟩), .pointer (some ⟨b0 + 2, 0, none⟩)] (fpF k l p) (FpI w0 A c l Ap cp p b0) := by
  intro W Aq cq q f f' b O hCq hcq hlq hF hI
  show Calls Try.prog 84 #[.slice Aq q.length cq, .pointer (some ⟨b0, 0, none⟩), .pointer (some ⟨b0 + 1, 0, none⟩), .pointer (some ⟨b0 + 3, 0, none⟩), .pointer (some ⟨b0 + 2, 0, none⟩)] W _
  obtain ⟨o, ho, hF⟩ := Option.bind_eq_some_iff.1 hF
  obtain ⟨s, hs, hF⟩ := Option.bind_eq_some_iff.1 hF
  obtain ⟨bq, he, hF⟩ := Option.bind_eq_some_iff.1 hF
  have h' := Option.some.inj hF
  simp only [Prod.mk.injEq] at h'
  obtain ⟨rfl, rfl⟩ := h'
  have HI := Aside0.mk hI
  have HOO := Aside0.mk ho
  have HSS := Aside0.mk hs
  have HEE := Aside0.mk he
  have HCQ := Aside0.mk hCq
  have HLQ := Aside0.mk hcq
  have HB0 := Aside0.mk (below_drew (Below.refl W.heap.size W))
  have HB1 := Aside0.mk (below_step hI.be (below_drew (Below.refl W.heap.size W)))
  have q1 : W.drew.cell? ⟨b0, 0, none⟩ = some (.slice A l.length c) := (HB0.out.cell (World.block_lt_of_cell? _ _ (ch_cell hI.co))).trans (ch_cell hI.co)
  have q2 : W.drew.cell? ⟨b0 + 1, 0, none⟩ = some (.slice Ap p.length cp) := (HB0.out.cell (World.block_lt_of_cell? _ _ (ch_cell hI.cp_))).trans (ch_cell hI.cp_)
  clear hF hI ho hs he hCq hcq
  go_enter Try.func84, Try.ntmps84
  go_upto_region 1 with fail
  refine wp_region_held_drew (S := (fun W_ : World => W_.cell? ⟨b0, 0, none⟩ = some (.slice A l.length c) ∧ W_.cell? ⟨b0 + 1, 0, none⟩ = some (.slice Ap p.length cp))) (by kernel_rfl) ⟨q1, q2⟩ (fun hHeld => ?_)
  refine wpAnyH_take (i := 0) (oi := ?oimF0) (v := (.slice A l.length c)) ?himF0 (by kernel_rfl) (by kernel_rfl) (by kernel_rfl) ?hQmF0 ?hymF0 hHeld ?hmF0
  case himF0 => (simp only [List.getElem?_toArray, List.getElem?_cons_succ, List.getElem?_cons_zero]; rfl)
  case hQmF0 => exact fun _ _ _ h => h
  case hymF0 => exact Or.inl ⟨by rfl, by intro w_ hSw; have h_ := hSw.1; first | (go_simp; done) | (go_simp; with_reducible rfl)⟩
  try simp only [Act.put, List.setIfInBounds_toArray, List.set_cons_zero, List.set_cons_succ]
  refine wpAnyH_take (i := 1) (oi := ?oimF1) (v := ?vmF1) ?himF1 (by kernel_rfl) (by kernel_rfl) (by kernel_rfl) ?hQmF1 ?hymF1 hHeld ?hmF1
  case himF1 => (simp only [List.getElem?_toArray, List.getElem?_cons_succ, List.getElem?_cons_zero]; rfl)
  case hQmF1 => exact fun _ _ _ h => h
  case hymF1 => exact Or.inl ⟨by rfl, by intro w_ hSw; (try dsimp only at hSw); first | (go_simp; done) | (go_simp; with_reducible rfl)⟩
  try simp only [Act.put, List.setIfInBounds_toArray, List.set_cons_zero, List.set_cons_succ]
  refine wpAnyH_take (i := 4) (oi := ?oimF4) (v := (.slice Ap p.length cp)) ?himF4 (by kernel_rfl) (by kernel_rfl) (by kernel_rfl) ?hQmF4 ?hymF4 hHeld ?hmF4
  case himF4 => (simp only [List.getElem?_toArray, List.getElem?_cons_succ, List.getElem?_cons_zero]; rfl)
  case hQmF4 => exact fun _ _ _ h => h
  case hymF4 => exact Or.inl ⟨by rfl, by intro w_ hSw; have h_ := hSw.2; first | (go_simp; done) | (go_simp; with_reducible rfl)⟩
  try simp only [Act.put, List.setIfInBounds_toArray, List.set_cons_zero, List.set_cons_succ]
  refine wpAnyH_ready (rs := [2]) (by kernel_rfl) (by simp) ?_
  refine AllReadyH.cons (o := ?ocmF2) ?hcmF2 (fun K hK => ?hkmF2) AllReadyH.nil
  case hcmF2 => (simp only [List.getElem?_toArray, List.getElem?_cons_succ, List.getElem?_cons_zero]; rfl)
  go_simp
  go_at_call 45
  refine (impl_at.calls k A c l Aq cq q o _ (Kd.C_below HI.out.hC HB1.out) HI.out.hc (Kd.C_drew HCQ.out) HLQ.out HOO.out).mono ?_
  rintro e w5 ⟨v5, rfl, ho, hb⟩
  obtain ⟨A5, c5, e5⟩ := Kd.R_slice ho
  subst e5
  have HB5 := Aside0.mk (below_step HB0.out hb)
  have HIB5 := Aside0.mk (below_step HB1.out hb)
  have q15 := (hb.cell (World.block_lt_of_cell? _ _ q1)).trans q1
  have q25 := (hb.cell (World.block_lt_of_cell? _ _ q2)).trans q2
  try dsimp only
  refine hK.out _ _ ⟨q15, q25⟩ (fun hHeld => ?_)
  clear hK K
  try simp only [Act.put, List.setIfInBounds_toArray, List.set_cons_zero, List.set_cons_succ]
  refine wpAnyH_ready (rs := [3]) (by kernel_rfl) (by simp) ?_
  refine AllReadyH.cons (o := ?ocmF3) ?hcmF3 (fun K hK => ?hkmF3) AllReadyH.nil
  case hcmF3 => (simp only [List.getElem?_toArray, List.getElem?_cons_succ, List.getElem?_cons_zero]; rfl)
  go_simp
  go_at_call 86
  refine (impl_shape.calls k A5 c5 o s _ (Kd.R_reads' ho).2.2 (Kd.R_reads' ho).2.1 HSS.out).mono ?_
  rintro e w6 ⟨v6, rfl, ho6, hb6⟩
  obtain ⟨A6, c6, e6⟩ := Kd.R_slice ho6
  subst e6
  have HB6 := Aside0.mk (below_step HB5.out hb6)
  have HIB6 := Aside0.mk (below_step HIB5.out hb6)
  have q16 := (hb6.cell (World.block_lt_of_cell? _ _ q15)).trans q15
  have q26 := (hb6.cell (World.block_lt_of_cell? _ _ q25)).trans q25
  try dsimp only
  refine hK.out _ _ ⟨q16, q26⟩ (fun hHeld => ?_)
  clear hK K
  try simp only [Act.put, List.setIfInBounds_toArray, List.set_cons_zero, List.set_cons_succ]
  refine wpAnyH_ready (rs := [5]) (by kernel_rfl) (by simp) ?_
  refine AllReadyH.cons (o := ?ocmF5) ?hcmF5 (fun K hK => ?hkmF5) AllReadyH.nil
  case hcmF5 => (simp only [List.getElem?_toArray, List.getElem?_cons_succ, List.getElem?_cons_zero]; rfl)
  go_simp
  go_at_call 85
  refine (slices_Equal_int_int.calls k A6 c6 s Ap cp p bq _ (Kd.R_reads' ho6).2.2 (Kd.R_reads' ho6).2.1 (Kd.C_below HI.out.hCp HIB6.out) HI.out.hcp HEE.out).mono ?_
  rintro e w7 ⟨rfl, hd⟩
  have hb7 := Drawn0.below hd
  have HB7 := Aside0.mk (below_step HB6.out hb7)
  have q17 := (hb7.cell (World.block_lt_of_cell? _ _ q16)).trans q16
  have q27 := (hb7.cell (World.block_lt_of_cell? _ _ q26)).trans q26
  have HI7 := Aside0.mk (HI.out.below HB7.out)
  have x3 := ch_cell HI7.out.cf
  have f3 := blk_frozen HI7.out.cf 0
  try dsimp only
  refine hK.out _ _ ⟨q17, q27⟩ (fun hHeld => ?_)
  clear hK K
  try simp only [Act.put, List.setIfInBounds_toArray, List.set_cons_zero, List.set_cons_succ]
  refine wpAnyH_ready (rs := [6]) (by kernel_rfl) (by simp) ?_
  refine AllReadyH.cons (o := ?ocmF6) ?hcmF6 (fun K hK => ?hkmF6) AllReadyH.nil
  case hcmF6 => (simp only [List.getElem?_toArray, List.getElem?_cons_succ, List.getElem?_cons_zero]; rfl)
  go_simp
  have hf8 := blk_put HI7.out.cf 0 (.bool bq) rfl
  have q18 : (w7.setCell ⟨b0 + 3, 0, none⟩ (.bool bq)).cell? ⟨b0, 0, none⟩ = some (.slice A l.length c) := ch_cell (blk_far (p := ⟨b0 + 3, 0, none⟩) HI7.out.co (by show b0 ≠ b0 + 3; omega) (.bool bq))
  have q28 : (w7.setCell ⟨b0 + 3, 0, none⟩ (.bool bq)).cell? ⟨b0 + 1, 0, none⟩ = some (.slice Ap p.length cp) := ch_cell (blk_far (p := ⟨b0 + 3, 0, none⟩) HI7.out.cp_ (by show b0 + 1 ≠ b0 + 3; omega) (.bool bq))
  try dsimp only
  refine hK.out _ _ ⟨q18, q28⟩ (fun hHeld => ?_)
  clear hK K
  try simp only [Act.put, List.setIfInBounds_toArray, List.set_cons_zero, List.set_cons_succ]
  refine wpAnyH_done (by kernel_rfl) ?_ _
  obtain ⟨vu, hvu⟩ := HI7.out.cu
  have hu8 := blk_far (p := ⟨b0 + 3, 0, none⟩) hvu (by show b0 + 2 ≠ b0 + 3; omega) (.bool bq)
  have x4 := ch_cell hu8
  have f4 := blk_frozen hu8 0
  have hu9 := blk_put hu8 0 (.slice Aq q.length cq) rfl
  have hf9 := blk_far (p := ⟨b0 + 2, 0, none⟩) hf8 (by show b0 + 3 ≠ b0 + 2; omega) (.slice Aq q.length cq)
  have x5 := ch_cell hf9
  go_wp2
  go_ret
  have hE := HI7.out.e0
  have far : ∀ (j : Nat), j ≠ b0 + 2 → j ≠ b0 + 3 → ((w7.setCell ⟨b0 + 3, 0, none⟩ (.bool bq)).setCell ⟨b0 + 2, 0, none⟩ (.slice Aq q.length cq)).heap[j]? = w7.heap[j]? := fun j h1 h2 => (Below.heap_setCell _ ⟨b0 + 2, 0, none⟩ _ j (by show j ≠ b0 + 2; exact h1)).trans (Below.heap_setCell _ ⟨b0 + 3, 0, none⟩ _ j (by show j ≠ b0 + 3; exact h2))
  refine ⟨rfl, O, ⟨hE, below_set (below_set HI7.out.be (by omega)) (by omega), (far _ (by omega) (by omega)).trans HI7.out.co, (far _ (by omega) (by omega)).trans HI7.out.cp_, ⟨_, hu9⟩, hf9, HI7.out.hC, HI7.out.hc, HI7.out.hCp, HI7.out.hcp, HI7.out.hO⟩, ⟨HB7.out.os, HB7.out.tape, HB7.out.output, by simpa [World.setCell] using HB7.out.size, fun i hi ho => ?_⟩, Nw.refl _ _⟩
  have hn : i ≠ b0 + 2 ∧ i ≠ b0 + 3 := ⟨fun e_ => ho ((HI7.out.hO i).2 (.inl e_)), fun e_ => ho ((HI7.out.hO i).2 (.inr e_))⟩
  exact (far i hn.1 hn.2).trans (HB7.out.block i hi)
/-- Whether numbers contain a pattern, as the program looks for it. -/
def fpB (k : Nat) (l p : List Int) : Option Bool := if l.length ≤ 800 ∧ p.length ≤ 800 then (cwF (fpF k l p) l.length p.length (p.length + 1) [] 0 false).bind fun r => some r.2 else none
set_option maxHeartbeats 16000000 in
set_option maxRecDepth 100000 in
theorem firstPlaces_calls (k : Nat) (A : Option Addr) (c : Nat) (l : List Int) (Ap : Option Addr) (cp : Nat) (p : List Int) (r : Bool) (w : World) (hC : Kd.C (Kd.int .i64) w A l.length l) (hc : l.length ≤ c) (hCp : Kd.C (Kd.int .i64) w Ap p.length p) (hcp : p.length ≤ cp) (h : fpB k l p = some r) :
    Calls Try.prog 74 #[.slice A l.length c, .slice Ap p.length cp] w fun e w' => (∃ v, e = .returned (.tuple #[v, .bool r])) ∧ Below w.heap.size w w' := by
  have eg84 : ∀ args w, (callFunc 84 args).run Try.prog w = .ok (.enter 84 args) w := enters_of Try.func84 (by kernel_rfl) rfl
  unfold fpB at h
  by_cases hl : l.length ≤ 800 ∧ p.length ≤ 800
  · rw [if_pos hl] at h
    obtain ⟨⟨bb, f⟩, hch, h⟩ := Option.bind_eq_some_iff.1 h
    obtain rfl := Option.some.inj h
    obtain ⟨w4, hw4⟩ : ∃ w4, w4 = (((w.alloc (.cells #[.slice A l.length c] 36)).alloc (.cells #[.slice Ap p.length cp] 36)).alloc (.cells #[.slice none 0 0] 36)).alloc (.cells #[.bool false] 4) := ⟨_, rfl⟩
    have z1 := blk_new w (.cells #[.slice A l.length c] 36)
    have z2 := blk_new (w.alloc (.cells #[.slice A l.length c] 36)) (.cells #[.slice Ap p.length cp] 36)
    have z3 := blk_new ((w.alloc (.cells #[.slice A l.length c] 36)).alloc (.cells #[.slice Ap p.length cp] 36)) (.cells #[.slice none 0 0] 36)
    have z4 := blk_new (((w.alloc (.cells #[.slice A l.length c] 36)).alloc (.cells #[.slice Ap p.length cp] 36)).alloc (.cells #[.slice none 0 0] 36)) (.cells #[.bool false] 4)
    rw [World.size_alloc, World.size_alloc, World.size_alloc] at z4
    rw [World.size_alloc, World.size_alloc] at z3
    rw [World.size_alloc] at z2
    have hI : FpI w A c l Ap cp p w.heap.size false (fun i => i = w.heap.size + 2 ∨ i = w.heap.size + 3) w4 := by
      rw [hw4]
      exact ⟨rfl, below_alloc (below_alloc (below_alloc (below_alloc (Below.refl _ _) _) _) _) _, blk_alloc (blk_alloc (blk_alloc z1 _) _) _, blk_alloc (blk_alloc z2 _) _, ⟨_, blk_alloc z3 _⟩, z4, hC, hc, hCp, hcp, fun _ => Iff.rfl⟩
    have HCH := Aside0.mk (choose_calls 84 #[.pointer (some ⟨w.heap.size, 0, none⟩), .pointer (some ⟨w.heap.size + 1, 0, none⟩), .pointer (some ⟨w.heap.size + 3, 0, none⟩), .pointer (some ⟨w.heap.size + 2, 0, none⟩)] eg84 (fpF k l p) (FpI w A c l Ap cp p w.heap.size) (fun s O W W' h_ hb_ => h_.below hb_) (fun s O W h_ => h_.lt) (first1_steps k w A c l Ap cp p w.heap.size) l.length p.length hl.1 hl.2 false f bb w4 _ hI hch)
    have q1 := ch_cell hI.co
    have q2 := ch_cell hI.cp_
    clear z1 z2 z3 z4 hI hC hc hCp hcp h hch hl
    go_enter Try.func74, Try.ntmps74
    go_upto_region 2 with fail
    (try simp only [Nat.add_assoc, Nat.reduceAdd])
    rw [← hw4]
    clear hw4
    cases f with
    | true =>
      go_wp2_with (go_at_call 43; (refine HCH.out.mono ?_); rintro e w8 ⟨rfl, O8, hI8, _, _⟩; obtain ⟨vu, hvu⟩ := hI8.cu; have x1 := ch_cell hvu; have x2 := ch_cell hI8.cf; have HB8 := Aside0.mk hI8.be; clear hvu hI8)
      repeat (go_quiet (fail); try go_wp2)
      go_ret2
      exact ⟨⟨_, rfl⟩, by repeat (with_reducible first | exact HB8.out | apply pw_below_drewN | apply below_drew1)⟩
    | false =>
      go_wp2_with (go_at_call 43; (refine HCH.out.mono ?_); rintro e w8 ⟨rfl, O8, hI8, _, _⟩; obtain ⟨vu, hvu⟩ := hI8.cu; have x1 := ch_cell hvu; have x2 := ch_cell hI8.cf; have HB8 := Aside0.mk hI8.be; clear hvu hI8)
      repeat (go_quiet (fail); try go_wp2)
      go_ret2
      exact ⟨⟨_, rfl⟩, by repeat (with_reducible first | exact HB8.out | apply pw_below_drewN | apply below_drew1)⟩
  · rw [if_neg hl] at h
    cases h
set_option maxHeartbeats 8000000 in
set_option maxRecDepth 100000 in
theorem contains_calls (k : Nat) (A : Option Addr) (c : Nat) (l : List Int) (Ap : Option Addr) (cp : Nat) (p : List Int) (r : Bool) (w : World) (hC : Kd.C (Kd.int .i64) w A l.length l) (hc : l.length ≤ c) (hCp : Kd.C (Kd.int .i64) w Ap p.length p) (hcp : p.length ≤ cp) (h : fpB k l p = some r) :
    Calls Try.prog 57 #[.slice A l.length c, .slice Ap p.length cp] w fun e w' => e = .returned (.bool r) ∧ Below w.heap.size w w' := by
  have HF := Aside0.mk (firstPlaces_calls k A c l Ap cp p r w hC hc hCp hcp h)
  clear hC hc hCp hcp h
  go_enter Try.func57, Try.ntmps57
  go_wp2_with (go_at_call 74; (refine HF.out.mono ?_); rintro e w7 ⟨⟨v7, rfl⟩, hb⟩; have HB7 := Aside0.mk hb; clear hb)
  go_ret
  exact ⟨rfl, HB7.out⟩
/-- Whether F tells true of one of some lists. -/
def anyO (F : List Int → Option Bool) : List (List Int) → Option Bool
  | [] => some false
  | x :: t => (F x).bind fun b => if b = true then some true else anyO F t
def idxO (F : List Int → Option Bool) : List (List Int) → Int → Option Int
  | [], _ => some (-1)
  | x :: t, i => (F x).bind fun b => if b = true then some i else idxO F t (i + 1)
theorem idxO_any (F : List Int → Option Bool) : ∀ (l : List (List Int)) (i : Int) (r : Bool), 0 ≤ i → anyO F l = some r → ∃ q, idxO F l i = some q ∧ decide (0 ≤ q) = r
  | [], _, r, _, h => ⟨-1, rfl, by obtain rfl := Option.some.inj h; rfl⟩
  | x :: t, i, r, hi, h => by
    obtain ⟨b, hb, h⟩ := Option.bind_eq_some_iff.1 h
    cases b with
    | true =>
      obtain rfl := Option.some.inj h
      exact ⟨i, by simp [idxO, hb], decide_eq_true hi⟩
    | false =>
      obtain ⟨q, h1, h2⟩ := idxO_any F t (i + 1) r (by omega) (by simpa using h)
      exact ⟨q, by simp [idxO, hb, h1], h2⟩
theorem anyO_le {F G : List Int → Option Bool} (h : ∀ l, LeO (F l) (G l)) : ∀ l, LeO (anyO F l) (anyO G l)
  | [] => LeO.refl _
  | x :: t => LeO.bind (h x) fun _ => LeO.ite (LeO.refl _) (anyO_le h t)
set_option maxHeartbeats 4000000 in
set_option maxRecDepth 100000 in
theorem IndexFunc_rows (g : Nat) (lb : Array Value) (eg : ∀ args w, (callFunc g args).run Try.prog w = .ok (.enter g args) w) (F : List Int → Option Bool) (S : World → Prop)
    (hS : ∀ W W' : World, S W → Below W.heap.size W W' → S W') (ht : TellsB Try.prog g lb F S) (A : Option Addr) (c : Nat) (l : List (List Int)) (r : Int) (w : World) (hr : Kd.C (Kd.slice 3 (Kd.int .i64)) w A l.length l) (hlim : l.length ≤ 1000000) (h : idxO F l 0 = some r) (h0 : S w) :
    Calls Try.prog 72 #[.slice A l.length c, .func (.func g) #[] lb] w fun e w' => e = .returned (.int .i64 r) ∧ Below w.heap.size w w' := by
  have HR := Aside0.mk hr
  have H0 := Aside0.mk h0
  have HT := Aside0.mk ht
  have HS := Aside0.mk hS
  have HM := Aside0.mk hlim
  have H := Aside0.mk h
  clear hr h0 ht hS hlim h
  go_enter Try.func72, Try.ntmps72
  go_wp2
  go_loopg [8] l.length (fun kq v8 w' => ∃ (i : Nat), v8 = .int .i64 (i : Int) ∧ Aside0 (i + kq = l.length) ∧ Aside0 (idxO F (l.drop i) (i : Int) = some r) ∧ Aside0 (Below w.heap.size w w') ∧ Aside0 (S w'))
  case atStart => exact ⟨0, rfl, ⟨by omega⟩, H, ⟨Below.refl _ _⟩, H0⟩
  case round =>
    clear H0 H
    obtain ⟨i, rfl, HK, HF, HB, HW⟩ := hrel
    by_cases hi : i < l.length
    · obtain ⟨k1, hk1⟩ : ∃ k1, gk = k1 + 1 := ⟨gk - 1, by have := HK.out; omega⟩
      subst hk1
      have d1 : decide (i < l.length) = true := decide_eq_true hi
      obtain ⟨ad, A1, c1, eA, hcell, hl1, hC1⟩ := at_rows (Kd.C_below HR.out HB.out) i hi
      subst eA
      have p2 := eq_true (show (0 : Int) ≤ (i : Int) by omega)
      have d2 : decide (0 ≤ (i : Int)) = true := decide_eq_true (by omega)
      have E1 := Aside0.mk (show wrap64 ((i : Int) + 1) = ((i + 1 : Nat) : Int) by have := HM.out; unfold wrap64; omega)
      have hf := HF.out
      rw [rdL_drop l i hi] at hf
      obtain ⟨b, hb, hf⟩ := Option.bind_eq_some_iff.1 hf
      have HFB := Aside0.mk hb
      have HC1 := Aside0.mk hC1
      have HL1 := Aside0.mk hl1
      generalize rdL l i = x at hcell HFB HC1 HL1
      clear hb hC1 hl1 HF
      cases b with
      | true =>
        rw [if_pos rfl] at hf
        obtain rfl := Option.some.inj hf
        clear hf
        go_wp2_with (go_at_fn g; (refine (HT.out.at_ _ A1 c1 x true HC1.out HL1.out HFB.out HW.out).mono ?_); rintro e w6 ⟨rfl, hb⟩; have HB2 := Aside0.mk (below_step HB.out hb); clear hb)
        go_ret
        exact ⟨rfl, HB2.out⟩
      | false =>
        have HF2 := Aside0.mk (show idxO F (l.drop (i + 1)) ((i + 1 : Nat) : Int) = some r by simpa using hf)
        clear hf
        go_wp2_with (go_at_fn g; (refine (HT.out.at_ _ A1 c1 x false HC1.out HL1.out HFB.out HW.out).mono ?_); rintro e w6 ⟨rfl, hb⟩; have HB2 := Aside0.mk (below_step HB.out hb); have HW2 := Aside0.mk (HS.out _ _ HW.out hb); clear hb)
        go_roundg k1
        case measure => omega
        case rel => exact ⟨i + 1, by rw [E1.out], ⟨by have := HK.out; omega⟩, HF2, HB2, HW2⟩
    · obtain rfl : i = l.length := by have := HK.out; omega
      have d1 : decide ((l.length : Int) < (l.length : Int)) = false := decide_eq_false (by omega)
      have hf := HF.out
      rw [List.drop_length] at hf
      obtain rfl := Option.some.inj hf
      clear hf
      go_wp2
      go_ret
      exact ⟨rfl, HB.out⟩
set_option maxHeartbeats 4000000 in
set_option maxRecDepth 100000 in
theorem ContainsFunc_rows (g : Nat) (lb : Array Value) (eg : ∀ args w, (callFunc g args).run Try.prog w = .ok (.enter g args) w) (F : List Int → Option Bool) (S : World → Prop)
    (hS : ∀ W W' : World, S W → Below W.heap.size W W' → S W') (ht : TellsB Try.prog g lb F S) (A : Option Addr) (c : Nat) (l : List (List Int)) (r : Bool) (w : World) (hr : Kd.C (Kd.slice 3 (Kd.int .i64)) w A l.length l) (hlim : l.length ≤ 1000000) (h : anyO F l = some r) (h0 : S w) :
    Calls Try.prog 53 #[.slice A l.length c, .func (.func g) #[] lb] w fun e w' => e = .returned (.bool r) ∧ Below w.heap.size w w' := by
  obtain ⟨q, hq, hqr⟩ := idxO_any F l 0 r (Int.le_refl _) h
  have HI := Aside0.mk (IndexFunc_rows g lb eg F S hS ht A c l q w hr hlim hq h0)
  have HQ := Aside0.mk hqr
  clear hr h0 hS ht h hq hqr
  go_enter Try.func53, Try.ntmps53
  go_wp2_with (go_at_call 72; (refine HI.out.mono ?_); rintro e w6 ⟨rfl, hb⟩; have HB2 := Aside0.mk hb; clear hb)
  go_ret
  exact ⟨by rw [← HQ.out]; first | rfl | simp, HB2.out⟩
/-- The worlds in which an order lies in cell b. -/
def OrS (w0 : World) (b : Nat) (A : Option Addr) (c : Nat) (l : List Int) (W : World) : Prop := W.heap[b]? = some (.cells #[.slice A l.length c] 36 (0, 0)) ∧ Below w0.heap.size w0 W
theorem OrS.below {w0 : World} {b : Nat} {A : Option Addr} {c : Nat} {l : List Int} (W W' : World) (h : OrS w0 b A c l W) (hb : Below W.heap.size W W') : OrS w0 b A c l W' := ⟨(hb.block _ (lt_of_block h.1)).trans h.1, below_step h.2 hb⟩
set_option maxHeartbeats 8000000 in
set_option maxRecDepth 100000 in
theorem avoids1_tells (k : Nat) (w0 : World) (b : Nat) (A : Option Addr) (c : Nat) (l : List Int) (hr0 : Kd.C (Kd.int .i64) w0 A l.length l) (hc0 : l.length ≤ c) : TellsB Try.prog 56 #[.pointer (some ⟨b, 0, none⟩)] (fpB k l) (OrS w0 b A c l) := by
  intro W Ap cp p r hC hc hF hW
  show Calls Try.prog 56 #[.slice Ap p.length cp, .pointer (some ⟨b, 0, none⟩)] W _
  have q1 := ch_cell hW.1
  have HC := Aside0.mk (contains_calls k A c l Ap cp p r W (Kd.C_below hr0 hW.2) hc0 hC hc hF)
  clear hC hc hF hW
  go_enter Try.func56, Try.ntmps56
  go_wp2_with (go_at_call 57; (refine HC.out.mono ?_); rintro e w7 ⟨rfl, hb⟩; have HB7 := Aside0.mk hb; clear hb)
  go_ret
  exact ⟨rfl, HB7.out⟩
/-- Whether an order avoids all of some patterns, as the program tells it. -/
def avF (k : Nat) (pats : List (List Int)) (l : List Int) : Option Bool := if pats.length ≤ 1000000 then (anyO (fpB k l) pats).bind fun b => some (!b) else none
set_option maxHeartbeats 8000000 in
set_option maxRecDepth 100000 in
theorem avoids_calls (k : Nat) (A : Option Addr) (c : Nat) (l : List Int) (Ap : Option Addr) (cp : Nat) (pats : List (List Int)) (r : Bool) (w : World) (hC : Kd.C (Kd.int .i64) w A l.length l) (hc : l.length ≤ c) (hCp : Kd.C (Kd.slice 3 (Kd.int .i64)) w Ap pats.length pats) (h : avF k pats l = some r) :
    Calls Try.prog 31 #[.slice A l.length c, .slice Ap pats.length cp] w fun e w' => e = .returned (.bool r) ∧ Below w.heap.size w w' := by
  have eg56 : ∀ args w, (callFunc 56 args).run Try.prog w = .ok (.enter 56 args) w := enters_of Try.func56 (by kernel_rfl) rfl
  unfold avF at h
  by_cases hl : pats.length ≤ 1000000
  · rw [if_pos hl] at h
    obtain ⟨b, hb, h⟩ := Option.bind_eq_some_iff.1 h
    obtain rfl := Option.some.inj h
    have hb1 := below_alloc (Below.refl w.heap.size w) (.cells #[.slice A l.length c] 36)
    have HX := Aside0.mk (ContainsFunc_rows 56 #[.pointer (some ⟨w.heap.size, 0, none⟩)] eg56 (fpB k l) (OrS w w.heap.size A c l) OrS.below (avoids1_tells k w w.heap.size A c l hC hc) Ap cp pats b (w.alloc (.cells #[.slice A l.length c] 36)) (Kd.C_below hCp hb1) hl hb ⟨blk_new w _, hb1⟩)
    have HB1 := Aside0.mk hb1
    clear hC hc hCp hb h hb1
    go_enter Try.func31, Try.ntmps31
    go_wp2_with (go_at_call 53; (refine HX.out.mono ?_); rintro e w7 ⟨rfl, hb⟩; have HB7 := Aside0.mk (below_step HB1.out hb); clear hb)
    go_ret
    exact ⟨rfl, HB7.out⟩
  · rw [if_neg hl] at h
    cases h
def ntF (k : Nat) (p : List Int) : Option Bool := (impl_isOrder.f k p).bind fun b => some (!b)
set_option maxHeartbeats 8000000 in
set_option maxRecDepth 100000 in
theorem arePat1_tells (k : Nat) : TellsB Try.prog 54 #[] (ntF k) (fun _ => True) := by
  intro W Ap cp p r hC hc hF _
  show Calls Try.prog 54 #[.slice Ap p.length cp] W _
  obtain ⟨b, hb, hF⟩ := Option.bind_eq_some_iff.1 hF
  obtain rfl := Option.some.inj hF
  have HC := Aside0.mk (impl_isOrder.calls k Ap cp p b W hC hc hb)
  clear hC hc hF hb
  go_enter Try.func54, Try.ntmps54
  go_wp2_with (go_at_call 55; (refine HC.out.mono ?_); rintro e w7 ⟨rfl, hd⟩; have HB7 := Aside0.mk (Drawn0.below hd); clear hd)
  go_ret
  exact ⟨rfl, HB7.out⟩
/-- Whether lists are patterns, and not too many. -/
def arF (k : Nat) (pats : List (List Int)) : Option Bool := if pats.length ≤ 4 then (anyO (ntF k) pats).bind fun b => some (!b) else some false
set_option maxHeartbeats 8000000 in
set_option maxRecDepth 100000 in
theorem arePatterns_calls (k : Nat) (Ap : Option Addr) (cp : Nat) (pats : List (List Int)) (r : Bool) (w : World) (hCp : Kd.C (Kd.slice 3 (Kd.int .i64)) w Ap pats.length pats) (h : arF k pats = some r) :
    Calls Try.prog 29 #[.slice Ap pats.length cp] w fun e w' => e = .returned (.bool r) ∧ Below w.heap.size w w' := by
  have eg54 : ∀ args w, (callFunc 54 args).run Try.prog w = .ok (.enter 54 args) w := enters_of Try.func54 (by kernel_rfl) rfl
  unfold arF at h
  by_cases hl : pats.length ≤ 4
  · rw [if_pos hl] at h
    obtain ⟨b, hb, h⟩ := Option.bind_eq_some_iff.1 h
    obtain rfl := Option.some.inj h
    have HX := Aside0.mk (ContainsFunc_rows 54 #[] eg54 (ntF k) (fun _ => True) (fun _ _ _ _ => trivial) (arePat1_tells k) Ap cp pats b w hCp (by omega) hb trivial)
    have hd1 : decide (pats.length ≤ 4) = true := decide_eq_true hl
    have hd2 : decide ((pats.length : Int) ≤ 4) = true := decide_eq_true (by omega)
    clear hCp hb h
    go_enter Try.func29, Try.ntmps29
    go_wp2_with (go_at_call 53; (refine HX.out.mono ?_); rintro e w7 ⟨rfl, hb⟩; have HB7 := Aside0.mk hb; clear hb)
    go_ret
    exact ⟨rfl, HB7.out⟩
  · rw [if_neg hl] at h
    obtain rfl := Option.some.inj h
    have hd1 : decide (pats.length ≤ 4) = false := decide_eq_false hl
    have hd2 : decide ((pats.length : Int) ≤ 4) = false := decide_eq_false (by omega)
    clear hCp h
    go_enter Try.func29, Try.ntmps29
    go_wp2
    go_ret
    exact ⟨rfl, Below.refl _ _⟩
/-- The worlds in which patterns lie in cell b. -/
def PaS (w0 : World) (b : Nat) (A : Option Addr) (c n : Nat) (W : World) : Prop := W.heap[b]? = some (.cells #[.slice A n c] 27 (0, 0)) ∧ Below w0.heap.size w0 W
theorem PaS.below {w0 : World} {b : Nat} {A : Option Addr} {c n : Nat} (W W' : World) (h : PaS w0 b A c n W) (hb : Below W.heap.size W W') : PaS w0 b A c n W' := ⟨(hb.block _ (lt_of_block h.1)).trans h.1, below_step h.2 hb⟩
set_option maxHeartbeats 8000000 in
set_option maxRecDepth 100000 in
theorem chanceAv1_tells (k : Nat) (w0 : World) (b : Nat) (Ap : Option Addr) (cp : Nat) (pats : List (List Int)) (hCp : Kd.C (Kd.slice 3 (Kd.int .i64)) w0 Ap pats.length pats) : TellsB Try.prog 30 #[.pointer (some ⟨b, 0, none⟩)] (avF k pats) (PaS w0 b Ap cp pats.length) := by
  intro W A c l r hC hc hF hW
  show Calls Try.prog 30 #[.slice A l.length c, .pointer (some ⟨b, 0, none⟩)] W _
  have q1 := ch_cell hW.1
  have HC := Aside0.mk (avoids_calls k A c l Ap cp pats r W hC hc (Kd.C_below hCp hW.2) hF)
  clear hC hc hF hW
  go_enter Try.func30, Try.ntmps30
  go_wp2_with (go_at_call 31; (refine HC.out.mono ?_); rintro e w7 ⟨rfl, hb⟩; have HB7 := Aside0.mk hb; clear hb)
  go_ret
  exact ⟨rfl, HB7.out⟩
def impl_ChanceAvoids.f (k : Nat) (a0 : Int) (pats : List (List Int)) : Option (Int × Int × Bool) := (arF k pats).bind fun b => drawnF k (chF (avF k pats)) a0 b
theorem fpF_le (k : Nat) (l p q : List Int) (f : Bool) : LeO (fpF k l p q f) (fpF (k + 1) l p q f) := LeO.bind (impl_at.mono _ _ _) fun _ => LeO.bind (impl_shape.mono _ _) fun _ => LeO.bind (slices_Equal_int_int.mono _ _ _) fun _ => LeO.refl _
theorem fpB_le (k : Nat) (l p : List Int) : LeO (fpB k l p) (fpB (k + 1) l p) := LeO.ite (LeO.bind (cwF_le (fun d s => fpF_le k l p d s) _ _ _ _ _ _) fun _ => LeO.refl _) (LeO.none _)
theorem avF_le (k : Nat) (pats : List (List Int)) (l : List Int) : LeO (avF k pats l) (avF (k + 1) pats l) := LeO.ite (LeO.bind (anyO_le (fun p => fpB_le k l p) _) fun _ => LeO.refl _) (LeO.none _)
theorem arF_le (k : Nat) (pats : List (List Int)) : LeO (arF k pats) (arF (k + 1) pats) := LeO.ite (LeO.bind (anyO_le (fun p => LeO.bind (impl_isOrder.mono _ _) fun _ => LeO.refl _) _) fun _ => LeO.refl _) (LeO.refl _)
theorem impl_ChanceAvoids.mono : ∀ a0 a1 k, LeO (impl_ChanceAvoids.f k a0 a1) (impl_ChanceAvoids.f (k + 1) a0 a1) := fun a0 a1 k => LeO.bind (arF_le k a1) fun _ => drawnF_le (fun l => LeO.bind (avF_le k a1 l) fun _ => LeO.refl _) a0 _
set_option maxHeartbeats 8000000 in
set_option maxRecDepth 100000 in
theorem impl_ChanceAvoids.calls (k : Nat) (a0 : Int) (A1 : Option Addr) (c1 : Nat) (l1 : List (List Int)) (r1_0 r1_1 : Int) (r2 : Bool) (w : World) (hr1 : Kd.C (Kd.slice 3 (Kd.int .i64)) w A1 l1.length l1) (hc1 : l1.length ≤ c1) (h : impl_ChanceAvoids.f k a0 l1 = some (r1_0, r1_1, r2)) :
    Calls Try.prog 12 #[.int .i64 a0, .slice A1 l1.length c1] w fun e w' => e = .returned (.tuple #[.agg #[.int .i64 r1_0, .int .i64 r1_1], .bool r2]) ∧ Below w.heap.size w w' := by
  have hu := Try.underlying22
  obtain ⟨t, ht, h⟩ := Option.bind_eq_some_iff.1 h
  have HT := Aside0.mk ht
  have H := Aside0.mk h
  have z1 := blk_alloc (blk_new w (.cells #[.slice A1 l1.length c1] 27)) (.cells #[.int .i64 0, .int .i64 0] 22)
  have z2 := blk_new (w.alloc (.cells #[.slice A1 l1.length c1] 27)) (.cells #[.int .i64 0, .int .i64 0] 22)
  rw [World.size_alloc] at z2
  have HK := Aside0.mk z1
  have HX := Aside0.mk z2
  have q1 := ch_cell z1
  have HC := Aside0.mk hr1
  have HB0 := Aside0.mk (below_alloc (below_alloc (Below.refl w.heap.size w) (.cells #[.slice A1 l1.length c1] 27)) (.cells #[.int .i64 0, .int .i64 0] 22))
  have eg : ∀ args w, (callFunc 30 args).run Try.prog w = .ok (.enter 30 args) w := enters_of Try.func30 (by kernel_rfl) rfl
  clear h ht z1 z2 hr1
  go_enter Try.func12, Try.ntmps12
  go_wp2_with (first
    | (go_at_call 29; (refine (arePatterns_calls k A1 c1 l1 t _ (Kd.C_below HC.out HB0.out) HT.out).mono ?_); rintro e w5 ⟨rfl, hb⟩; have HB5 := Aside0.mk (below_step HB0.out hb); have HK5 := Aside0.mk ((hb.block _ (lt_of_block HK.out)).trans HK.out); have HX5 := Aside0.mk ((hb.block _ (lt_of_block HX.out)).trans HX.out); clear hb)
    | (go_at_call 28; (refine (drawnChance_calls k 30 #[.pointer (some ⟨w.heap.size, 0, none⟩)] eg (avF k l1) (PaS w w.heap.size A1 c1 l1.length) PaS.below (chanceAv1_tells k w w.heap.size A1 c1 l1 HC.out) a0 t r1_0 r1_1 r2 _ H.out ⟨HK5.out, HB5.out⟩).mono ?_); rintro e w7 ⟨rfl, hb⟩; have HB7 := Aside0.mk (below_step HB5.out hb); have HX7 := Aside0.mk ((hb.block _ (lt_of_block HX5.out)).trans HX5.out); have c0 := (mn_cell_of_two HX7.out).1; have c1_ := (mn_cell_of_two HX7.out).2; have f0 := (mn_free_of_two HX7.out).1; have f1 := (mn_free_of_two HX7.out).2; clear hb))
  have g0 := blk_put HX7.out 0 (.int .i64 r1_0) rfl
  have g1 := blk_put g0 1 (.int .i64 r1_1) rfl
  refine bodyPost_ret (v := .tuple #[.agg #[.int .i64 r1_0, .int .i64 r1_1], .bool r2]) ?_ rfl ?_
  · exact results_list (rs := [.cell 4 22, .tmp 5]) rfl (by simp) (.cell (w.heap.size + 1) 22 #[.int .i64 r1_0, .int .i64 r1_1] (0, 0) _ rfl g1 hu rfl (by kernel_rfl) (.tmp .nil))
  · exact ⟨rfl, below_set (below_set HB7.out (by show w.heap.size ≤ w.heap.size + 1; omega)) (by show w.heap.size ≤ w.heap.size + 1; omega)⟩

end Go.Proofs.Yteccmfcmkghbgaa.Xp
