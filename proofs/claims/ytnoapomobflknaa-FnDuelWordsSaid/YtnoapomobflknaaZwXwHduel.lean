/- The duel's map of values: value and gain walked by hand; impl.DuelValue by them. -/
import Derived.Test.YtnoapomobflknaaZwXw0
import Derived.Test.YtnoapomobflknaaZwXw1
import Derived.Test.YtnoapomobflknaaZwXw2
import Derived.OneCell
import Derived.Lib.SliceRun
import Derived.Maps.OwnSet
import Derived.Maps.OwnOps
import Derived.Maps.Views
import Derived.Outline
namespace Go.Proofs.Ytnoapomobflknaa.Xw
open Go.RowKit Go.Proofs.YtnoapomobflknaaW.PrintWords Go.Proofs.YtnoapomobflknaaW.PrintLast Go.Proofs.YtnoapomobflknaaW.PrintMore
attribute [local go_sem] max2_int min2_int max_two min_two max_three min_three max_four min_four
set_option linter.unusedVariables false
set_option linter.unusedSimpArgs false
/-! ### what is told, in plain words -/
def sg (c : Int) : ByteArray := if c = 73 then ⟨#[73]⟩ else ⟨#[79]⟩
def dgain (k : Nat) (l : List Int) (V : ByteArray → Option Int) (so : ByteArray) (c : Int) : Option Int :=
  if (c = 73 ∨ c = 79) ∧ so.size ≤ 1000 then (impl_stackAfter.f k l (so ++ sg c)).bind fun t => (V (so ++ sg c)).bind fun v => some (wrap64 (t.2 - v)) else none
def dlp (G : Int → Option Int) : List Int → Bool → Int → Option Int
  | [], _, best => some best
  | c :: t, first, best => (G c).bind fun own => dlp G t false (if first = true ∨ own > best then own else best)
def dval (k : Nat) (l : List Int) : Nat → ByteArray → Option Int
  | 0, _ => none
  | m + 1, so => (impl_nextSigns.f k (l.length : Int) so).bind fun s => if s.size ≤ 2 ∧ so.size ≤ 1000 then dlp (dgain k l (dval k l m) so) (bytesOf s) true 0 else none
theorem dgain_le {k : Nat} {l : List Int} {V W : ByteArray → Option Int} (h : ∀ s, LeO (V s) (W s)) (so : ByteArray) (c : Int) : LeO (dgain k l V so c) (dgain (k + 1) l W so c) :=
  LeO.ite (LeO.bind (impl_stackAfter.mono _ _ _) fun _ => LeO.bind (h _) fun _ => LeO.refl _) (LeO.none _)
theorem dgain_le' {k : Nat} {l : List Int} {V W : ByteArray → Option Int} (h : ∀ s, LeO (V s) (W s)) (so : ByteArray) (c : Int) : LeO (dgain k l V so c) (dgain k l W so c) :=
  LeO.ite (LeO.bind (LeO.refl _) fun _ => LeO.bind (h _) fun _ => LeO.refl _) (LeO.none _)
theorem dlp_le {G H : Int → Option Int} (h : ∀ c, LeO (G c) (H c)) : ∀ s f b, LeO (dlp G s f b) (dlp H s f b)
  | [], _, _ => LeO.refl _
  | c :: t, f, b => LeO.bind (h c) fun _ => dlp_le h t _ _
theorem dval_mono (k : Nat) (l : List Int) : ∀ m s, LeO (dval k l m s) (dval (k + 1) l m s)
  | 0, _ => LeO.none _
  | m + 1, so => LeO.bind (impl_nextSigns.mono _ _ _) fun _ => LeO.ite (dlp_le (dgain_le (dval_mono k l m) so) _ _ _) (LeO.none _)
theorem dval_more (k : Nat) (l : List Int) : ∀ m s, LeO (dval k l m s) (dval k l (m + 1) s)
  | 0, _ => LeO.none _
  | m + 1, so => LeO.bind (LeO.refl _) fun _ => LeO.ite (dlp_le (dgain_le' (dval_more k l m) so) _ _ _) (LeO.none _)
theorem dval_one {k : Nat} {l : List Int} {m m' : Nat} {s : ByteArray} {r r' : Int} (h : dval k l m s = some r) (h' : dval k l m' s = some r') : r = r' := by
  have e1 := at_rounds (g := fun m => dval k l m s) (fun m => dval_more k l m s) (Nat.le_max_left m m') h
  have e2 := at_rounds (g := fun m => dval k l m s) (fun m => dval_more k l m s) (Nat.le_max_right m m') h'
  have e3 := e1.symm.trans e2
  exact Option.some.inj e3
theorem wrap_wf (x : Int) : (Lit.int .i64 (wrap64 x)).wf = true := RowKit.wrap64_wf _
theorem dlp_wf (G : Int → Option Int) (h : ∀ c x, G c = some x → (Lit.int .i64 x).wf = true) : ∀ s f b r, (Lit.int .i64 b).wf = true → dlp G s f b = some r → (Lit.int .i64 r).wf = true
  | [], _, b, r, hb, e => by obtain rfl := Option.some.inj e; exact hb
  | c :: t, f, b, r, hb, e => by
    obtain ⟨own, ho, e⟩ := Option.bind_eq_some_iff.1 e
    refine dlp_wf G h t _ _ r ?_ e
    split
    · exact h c own ho
    · exact hb
theorem dval_wf (k : Nat) (l : List Int) (m : Nat) (s : ByteArray) (r : Int) (h : dval k l m s = some r) : (Lit.int .i64 r).wf = true := by
  cases m with
  | zero => cases h
  | succ m =>
    obtain ⟨sg_, _, h⟩ := Option.bind_eq_some_iff.1 h
    split at h
    · refine dlp_wf _ (fun c x hx => ?_) _ _ _ r (by decide) h
      unfold dgain at hx
      split at hx
      · obtain ⟨t, _, hx⟩ := Option.bind_eq_some_iff.1 hx
        obtain ⟨v, _, hx⟩ := Option.bind_eq_some_iff.1 hx
        obtain rfl := Option.some.inj hx
        exact wrap_wf _
      · cases hx
    · cases h
/-! ### what lies in memory -/
/-- A known value of the map is the value. -/
def Knows (k : Nat) (l : List Int) (D : DataW Unit) : Prop := ∀ (s : ByteArray), Maps.has D (.string s.data.toList) = true → ∃ m v, dval k l m s = some v ∧ D.atKey (.string s.data.toList) (.lit (.int .i64 0)) = .lit (.int .i64 v)
structure DInv (w0 w : World) (d q : Nat) (A : Option Addr) (c : Nat) (l : List Int) (k n : Nat) : Prop where
  blk : w.heap[d]? = some (.cells #[.slice A l.length c, .map (some q)] 116 (0, 0))
  mp : ∃ D : DataW Unit, w.ownsMap Try.prog 9 (plainElem Try.prog 3) q n D ∧ Knows k l D
  bel : Below w0.heap.size w0 w
  gd : w0.heap.size ≤ d
  gq : w0.heap.size ≤ q
theorem DInv.below {w0 w w1 : World} {d q : Nat} {A : Option Addr} {c : Nat} {l : List Int} {k n : Nat} (h : DInv w0 w d q A c l k n) (hb : Below w.heap.size w w1) : DInv w0 w1 d q A c l k n := by
  obtain ⟨D, ho, hk⟩ := h.mp
  have hq : q < w.heap.size := by obtain ⟨es, cl, hh, _⟩ := ho; exact blk_lt hh
  refine ⟨(hb.block d (blk_lt h.blk)).trans h.blk, ⟨D, ?_, hk⟩, below_step h.bel hb, h.gd, h.gq⟩
  obtain ⟨es, cl, hh, r⟩ := ho
  exact ⟨es, cl, (hb.block q hq).trans hh, r⟩
theorem KeepBut.of_row {w w1 : World} {g : Nat} (h : w.grownBy w1 (some g)) : KeepBut w w1 g none := ⟨h.size, fun i hi hg _ => h.block i hi (fun e => hg (by injection e))⟩
def ValueTold (k : Nat) (l : List Int) (m : Nat) (w0 : World) (d q : Nat) (A : Option Addr) (c : Nat) : Prop :=
  ∀ (so : ByteArray) (r : Int) (n : Nat) (w : World), dval k l m so = some r → DInv w0 w d q A c l k n → n + 3 ^ m ≤ 1000000000000 →
    Calls Try.prog 78 #[.pointer (some ⟨d, 0, none⟩), .string so] w fun e w' => e = .returned (.int .i64 r) ∧ KeepBut w w' q none ∧ ∃ n', n' ≤ n + 3 ^ m ∧ DInv w0 w' d q A c l k n'
theorem ValueTold.at_ {k : Nat} {l : List Int} {m : Nat} {w0 : World} {d q : Nat} {A : Option Addr} {c : Nat} (h : ValueTold k l m w0 d q A c) (so : ByteArray) (r : Int) (n : Nat) (w : World) (hv : dval k l m so = some r) (hI : DInv w0 w d q A c l k n) (hn : n + 3 ^ m ≤ 1000000000000) :
    Calls Try.prog 78 #[.pointer (some ⟨d, 0, none⟩), .string so] w fun e w' => e = .returned (.int .i64 r) ∧ KeepBut w w' q none ∧ ∃ n', n' ≤ n + 3 ^ m ∧ DInv w0 w' d q A c l k n' := h so r n w hv hI hn
set_option maxHeartbeats 8000000 in
set_option maxRecDepth 100000 in
theorem gain_calls (k : Nat) (l : List Int) (m : Nat) (w0 : World) (d q : Nat) (A : Option Addr) (c : Nat) (hr0 : Kd.C (Kd.int .i64) w0 A l.length l) (hc0 : l.length ≤ c) (hV : ValueTold k l m w0 d q A c) (so : ByteArray) (x : Int) (r : Int) (n : Nat) (w : World) (h : dgain k l (dval k l m) so x = some r) (hI : DInv w0 w d q A c l k n) (hn : n + 3 ^ m ≤ 1000000000000) :
    Calls Try.prog 87 #[.pointer (some ⟨d, 0, none⟩), .string so, .int .u8 x] w fun e w' => e = .returned (.int .i64 r) ∧ KeepBut w w' q none ∧ ∃ n', n' ≤ n + 3 ^ m ∧ DInv w0 w' d q A c l k n' := by
  unfold dgain at h
  split at h
  · rename_i hcnd
    obtain ⟨hx, hs⟩ := hcnd
    obtain ⟨⟨t1, t2⟩, ht, h⟩ := Option.bind_eq_some_iff.1 h
    obtain ⟨v, hv, h⟩ := Option.bind_eq_some_iff.1 h
    obtain rfl := Option.some.inj h
    have HT := Aside0.mk ht
    have HVV := Aside0.mk hv
    have HV := Aside0.mk hV
    have HI := Aside0.mk hI
    have HN := Aside0.mk hn
    have HR0 := Aside0.mk hr0
    have HC0 := Aside0.mk hc0
    obtain ⟨y0, y1⟩ : w.cell? ⟨d, 0, none⟩ = some (.slice A l.length c) ∧ w.cell? ⟨d, 1, none⟩ = some (.map (some q)) := by
      have hb := hI.blk
      constructor <;> simp [World.cell?, hb]
    clear ht hv hV hI hn hr0 hc0 h
    have hcat : so.size + 1 ≤ 9223372036854775807 := by omega
    have hV0 : Kd.V (Kd.int .i64) 3 w w.heap.size (fun k_ => k_ < w.heap.size) (.slice A l.length c) l := Kd.V_mk HC0.out (Kd.F_mono (Kd.F_below (Kd.C_F (Kd.heap_int .i64) HR0.out) HI.out.bel) (fun k_ hk_ => Nat.lt_of_lt_of_le hk_ HI.out.bel.size))
    have HV0 := Aside0.mk hV0
    clear hV0
    rcases hx with rfl | rfl
    · have hu : Utf8.encode 73 = (⟨#[73]⟩ : ByteArray) := by decide
      have hsz : (⟨#[73]⟩ : ByteArray).size = 1 := rfl
      have hsg : sg 73 = (⟨#[73]⟩ : ByteArray) := rfl
      rw [hsg] at HT HVV
      clear hsg
      go_enter Try.func87, Try.ntmps87
      go_wp2_with (first
        | (go_at_call 84; (with_reducible refine (impl_stackAfter.calls k (fun k_ => k_ < w.heap.size) A c l (so ++ (⟨#[73]⟩ : ByteArray)) t1 t2 _ HV0.out HT.out).mono ?_); rintro e w6 ⟨v6, rfl, _, hb⟩; have HI6 := Aside0.mk (HI.out.below hb); have HK6 := Aside0.mk (KeepBut.of_below hb q none); clear hb)
        | (go_at_call 78; (refine (HV.out.at_ (so ++ (⟨#[73]⟩ : ByteArray)) v n _ HVV.out HI6.out HN.out).mono ?_); rintro e w7 ⟨rfl, hk', n', hn', hI'⟩; have HI7 := Aside0.mk hI'; have HN7 := Aside0.mk hn'; have HK7 := Aside0.mk (HK6.out.trans hk' (.inl rfl)); clear hn' hI' hk'))
      go_ret
      exact ⟨rfl, HK7.out, n', HN7.out, HI7.out⟩
    · have hu : Utf8.encode 79 = (⟨#[79]⟩ : ByteArray) := by decide
      have hsz : (⟨#[79]⟩ : ByteArray).size = 1 := rfl
      have hsg : sg 79 = (⟨#[79]⟩ : ByteArray) := rfl
      rw [hsg] at HT HVV
      clear hsg
      go_enter Try.func87, Try.ntmps87
      go_wp2_with (first
        | (go_at_call 84; (with_reducible refine (impl_stackAfter.calls k (fun k_ => k_ < w.heap.size) A c l (so ++ (⟨#[79]⟩ : ByteArray)) t1 t2 _ HV0.out HT.out).mono ?_); rintro e w6 ⟨v6, rfl, _, hb⟩; have HI6 := Aside0.mk (HI.out.below hb); have HK6 := Aside0.mk (KeepBut.of_below hb q none); clear hb)
        | (go_at_call 78; (refine (HV.out.at_ (so ++ (⟨#[79]⟩ : ByteArray)) v n _ HVV.out HI6.out HN.out).mono ?_); rintro e w7 ⟨rfl, hk', n', hn', hI'⟩; have HI7 := Aside0.mk hI'; have HN7 := Aside0.mk hn'; have HK7 := Aside0.mk (HK6.out.trans hk' (.inl rfl)); clear hn' hI' hk'))
      go_ret
      exact ⟨rfl, HK7.out, n', HN7.out, HI7.out⟩
  · cases h
theorem reads_keep {w w' : World} {g b n : Nat} {xs : List Int} (h : ReadsInt w .u8 (some ⟨b, 0, none⟩) n xs) (hk : KeepBut w w' g none) (hb : b ≠ g) (hlt : b < w.heap.size) : ReadsInt w' .u8 (some ⟨b, 0, none⟩) n xs := by
  refine ⟨h.1, h.2.1, fun hn => ?_⟩
  obtain ⟨ad, e, hc⟩ := h.2.2 hn
  injection e with e
  subst e
  refine ⟨_, rfl, fun j hj => ?_⟩
  have hcell := hc j hj
  rw [add_plain] at hcell ⊢
  have hh := hk.2 b hlt hb (by simp)
  have : ∀ W : World, W.heap[b]? = w.heap[b]? → W.cell? ⟨b, j, none⟩ = w.cell? ⟨b, j, none⟩ := fun W hW => by simp only [World.cell?, hW]
  rw [this w' hh]
  exact hcell
theorem dval_size {k : Nat} {l : List Int} {m : Nat} {s : ByteArray} {r : Int} (h : dval k l m s = some r) : s.size ≤ 1000 := by
  cases m with
  | zero => cases h
  | succ m =>
    obtain ⟨g, _, h⟩ := Option.bind_eq_some_iff.1 h
    split at h
    · rename_i hc
      exact hc.2
    · cases h
theorem knows_put {k : Nat} {l : List Int} {D : DataW Unit} (hm : Maps.IsMap D) (h : Knows k l D) {m : Nat} {so : ByteArray} {r : Int} (hv : dval k l m so = some r) : Knows k l (D.put (.string so.data.toList) (.lit (.int .i64 r))) := by
  intro s hh
  by_cases e : (Lit.string s.data.toList) = .string so.data.toList
  · injection e with e
    have es : s = so := by
      apply ByteArray.ext
      exact Array.toList_inj.1 e
    subst es
    exact ⟨m, r, hv, Maps.atKey_put_same hm (by simp [WideAt.IsKeyLit]) _ _⟩
  · rw [Maps.has_put_other e] at hh
    obtain ⟨m', v, a, b⟩ := h s hh
    exact ⟨m', v, a, by rw [Maps.atKey_put_other e]; exact b⟩
set_option maxHeartbeats 16000000 in
set_option maxRecDepth 100000 in
theorem value_calls (k : Nat) (l : List Int) (w0 : World) (d q : Nat) (A : Option Addr) (c : Nat) (hr0 : Kd.C (Kd.int .i64) w0 A l.length l) (hc0 : l.length ≤ c) : ∀ m, ValueTold k l m w0 d q A c := by
  intro m
  induction m with
  | zero => intro so r n w h; cases h
  | succ m ih =>
    intro so r n w h hI hn
    have HALL := Aside0.mk h
    have hso := dval_size h
    obtain ⟨s, hs, h⟩ := Option.bind_eq_some_iff.1 h
    have hc2 : s.size ≤ 2 ∧ so.size ≤ 1000 := by
      by_cases h0 : s.size ≤ 2 ∧ so.size ≤ 1000
      · exact h0
      · rw [if_neg h0] at h
        cases h
    rw [if_pos hc2] at h
    have hpow : 3 ^ (m + 1) = 3 ^ m * 3 := Nat.pow_succ _ _
    have hp0 : 0 < 3 ^ m := Nat.pow_pos (by decide)
    have HI := Aside0.mk hI
    obtain ⟨D, hown, hkn⟩ := hI.mp
    obtain ⟨y0, y1⟩ : w.cell? ⟨d, 0, none⟩ = some (.slice A l.length c) ∧ w.cell? ⟨d, 1, none⟩ = some (.map (some q)) := by
      have hb := hI.blk
      constructor <;> simp [World.cell?, hb]
    have hkey := WideMaps.keyOf_string_mk (P := Try.prog) Try.underlying9 (s := so) (by simp only [maxLen]; omega)
    have HKEY := Aside0.mk hkey
    have HOWN := Aside0.mk hown
    have HKN := Aside0.mk hkn
    have HS := Aside0.mk hs
    have HL := Aside0.mk h
    have HC2 := Aside0.mk hc2
    have HN := Aside0.mk hn
    have HP := Aside0.mk hpow
    have HP0 := Aside0.mk hp0
    have IH := Aside0.mk ih
    clear hkey hown hkn hs h hc2 hn hpow hp0 ih hI hso
    have hze : ∀ w : World, (zeroValue 3).run Try.prog w = .ok (.int .i64 0) w := fun _ => by kernel_rfl
    cases hh : Maps.has D (.string so.data.toList) with
    | true =>
      obtain ⟨m', v, hv, hat⟩ := HKN.out so hh
      obtain rfl := dval_one HALL.out hv
      have HAT := Aside0.mk hat
      clear hat hv
      go_enter Try.func78, Try.ntmps78
      go_wp2_with (at_lookup; refine wpList_lookup_own_ok_int _ rfl (.tmp 15) (.tmp 16) 114 rfl 9 3 .i64 (Maps.string_keyed Try.underlying9) Try.underlying114 Try.underlying3 (hze _) q n D rfl HOWN.out _ (.string so.data.toList) rfl HKEY.out ?_; intro cv hcv hwc; have hcr : cv = r := (by have e_ := HAT.out.symm.trans hcv; injection e_ with e_; injection e_ with e_ e2_; exact e2_.symm); subst hcr; clear hcv)
      go_ret
      exact ⟨rfl, KeepBut.refl _ _ _, n, Nat.le_add_right _ _, HI.out⟩
    | false =>
      have kb := fun (s : ByteArray) (W : World) => print_bytes (P := Try.prog) 9 22 5 Try.underlying9 Try.underlying22 Try.underlying5 s W
      go_enter Try.func78, Try.ntmps78
      go_wp2_with (first
        | (at_lookup; refine wpList_lookup_own_ok_int _ rfl (.tmp 15) (.tmp 16) 114 rfl 9 3 .i64 (Maps.string_keyed Try.underlying9) Try.underlying114 Try.underlying3 (hze _) q n D rfl HOWN.out _ (.string so.data.toList) rfl HKEY.out ?_; intro cv hcv hwc; clear hcv hwc)
        | (go_at_call 86; (with_reducible refine (impl_nextSigns.calls k (l.length : Int) so s _ HS.out).mono ?_); rintro e w6 ⟨rfl, hb⟩; have HB6 := Aside0.mk hb; clear hb))
      have HI6 := Aside0.mk ((HI.out.below HB6.out).below (bytes_below (Below.refl _ _) (Nat.le_refl _) 5 s))
      have HK6 := Aside0.mk ((KeepBut.of_below HB6.out q none).trans (KeepBut.of_below (bytes_below (Below.refl w6.heap.size w6) (Nat.le_refl _) 5 s) q none) (.inl rfl))
      have HR6 := Aside0.mk (bytes_reads w6 5 s (by have := HC2.out; omega))
      have HSZ := Aside0.mk (Lib.bytesWorld_size w6 5 s)
      clear hh
      go_loopg [7, 31] s.size (fun kq v7 v31 wr => ∃ (i : Nat) (best : Int) (n' : Nat), v7 = .int .i64 best ∧ v31 = .int .i64 (i : Int) ∧ Aside0 (i + kq = s.size) ∧ Aside0 (dlp (dgain k l (dval k l m) so) ((bytesOf s).drop i) (decide (i = 0)) best = some r) ∧ Aside0 (n' ≤ n + i * 3 ^ m) ∧ Aside0 (DInv w0 wr d q A c l k n') ∧ Aside0 (KeepBut w wr q none) ∧ Aside0 (ReadsInt wr .u8 (some ⟨w6.heap.size, 0, none⟩) s.size (bytesOf s)) ∧ Aside0 (w6.heap.size < wr.heap.size))
      case atStart => exact ⟨0, 0, n, rfl, rfl, ⟨by omega⟩, HL, ⟨by omega⟩, HI6, HK6, HR6, ⟨by rw [HSZ.out]; omega⟩⟩
      case round =>
        clear HI6 HK6 HR6 HSZ HL
        obtain ⟨i, best, n', rfl, rfl, HK, HL, HNN, HI, HKB, HR, HSZ⟩ := hrel
        have hq6 : q < w6.heap.size := by
          obtain ⟨es, cl, hh_, _⟩ := HOWN.out
          exact Nat.lt_of_lt_of_le (blk_lt hh_) HB6.out.size
        have HQ6 := Aside0.mk hq6
        have hbl := HI.out.blk
        obtain ⟨z0, z1⟩ : wr.cell? ⟨d, 0, none⟩ = some (.slice A l.length c) ∧ wr.cell? ⟨d, 1, none⟩ = some (.map (some q)) := by
          constructor <;> simp [World.cell?, hbl]
        clear hq6 hbl y0 y1
        by_cases hi : i < s.size
        · obtain ⟨k1, hk1⟩ : ∃ k1, gk = k1 + 1 := ⟨gk - 1, by have := HK.out; omega⟩
          subst hk1
          obtain ⟨ad, e_, hcell⟩ := ReadsInt.at_ HR.out (i : Int) (by omega) (by omega)
          injection e_ with e_
          subst e_
          rw [add_plain, Int.toNat_natCast] at hcell
          have hl := HL.out
          rw [List.drop_eq_getElem_cons (by rw [bytesOf_length]; exact hi), show (bytesOf s)[i]'(by rw [bytesOf_length]; exact hi) = rd (bytesOf s) (i : Int) by unfold rd; rw [Int.toNat_natCast]; simp [bytesOf_length, hi]] at hl
          generalize rd (bytesOf s) (i : Int) = x at hl hcell
          obtain ⟨own, hg, hl⟩ := Option.bind_eq_some_iff.1 hl
          have HG := Aside0.mk hg
          have HL2 := Aside0.mk hl
          have hib : i * 3 ^ m ≤ 3 ^ m := by
            have : i = 0 ∨ i = 1 := by have := HC2.out; omega
            rcases this with rfl | rfl
            · rw [Nat.zero_mul]; exact Nat.zero_le _
            · rw [Nat.one_mul]; exact Nat.le_refl _
          have HNB : Aside0 (n' + 3 ^ m ≤ 1000000000000) := ⟨by have := HNN.out; have := HN.out; have := HP.out; omega⟩
          have HSM : Aside0 (n + i * 3 ^ m + 3 ^ m = n + (i + 1) * 3 ^ m) := ⟨by rw [Nat.succ_mul]; omega⟩
          have HDC : Aside0 (decide (i + 1 = 0) = false) := ⟨decide_eq_false (by omega)⟩
          have E1 := Aside0.mk (show wrap64 ((i : Int) + 1) = ((i + 1 : Nat) : Int) by have := HC2.out; unfold wrap64; omega)
          have d0 : decide (0 ≤ (i : Int)) = true := decide_eq_true (by omega)
          have HNE : Aside0 (w6.heap.size ≠ q) := ⟨by have := HQ6.out; omega⟩
          clear hl hg hib HL
          by_cases h0 : i = 0
          · have hb0 : ((i : Int) == 0) = true := beq_iff_eq.2 (by omega)
            have HL3 : Aside0 (dlp (dgain k l (dval k l m) so) ((bytesOf s).drop (i + 1)) (decide (i + 1 = 0)) own = some r) := ⟨by rw [HDC.out]; have h_ := HL2.out; rw [if_pos (.inl (decide_eq_true h0))] at h_; exact h_⟩
            clear h0 HL2
            go_wp2_with (go_at_call 87; (refine (gain_calls k l m w0 d q A c hr0 hc0 IH.out so x own n' _ HG.out HI.out HNB.out).mono ?_); rintro e w8 ⟨rfl, hk8, n8, hn8, hi8⟩; have HI8 := Aside0.mk hi8; have HN8 := Aside0.mk hn8; have HK8 := Aside0.mk (HKB.out.trans hk8 (.inl rfl)); have HR8 := Aside0.mk (reads_keep HR.out hk8 HNE.out HSZ.out); have HZ8 := Aside0.mk (Nat.lt_of_lt_of_le HSZ.out hk8.1); clear hi8 hn8 hk8)
            go_roundg k1
            case measure => omega
            case rel => exact ⟨i + 1, own, n8, rfl, by rw [E1.out], ⟨by have := HK.out; omega⟩, HL3, ⟨by have := HN8.out; have := HNN.out; rw [← HSM.out]; omega⟩, HI8, HK8, HR8, HZ8⟩
          · have hb0 : ((i : Int) == 0) = false := beq_eq_false_iff_ne.2 (by omega)
            by_cases hgt : own > best
            · have HL3 : Aside0 (dlp (dgain k l (dval k l m) so) ((bytesOf s).drop (i + 1)) (decide (i + 1 = 0)) own = some r) := ⟨by rw [HDC.out]; have h_ := HL2.out; rw [if_pos (.inr hgt)] at h_; exact h_⟩
              have hgd : decide (best < own) = true := decide_eq_true hgt
              clear HL2
              go_wp2_with (go_at_call 87; (refine (gain_calls k l m w0 d q A c hr0 hc0 IH.out so x own n' _ HG.out HI.out HNB.out).mono ?_); rintro e w8 ⟨rfl, hk8, n8, hn8, hi8⟩; have HI8 := Aside0.mk hi8; have HN8 := Aside0.mk hn8; have HK8 := Aside0.mk (HKB.out.trans hk8 (.inl rfl)); have HR8 := Aside0.mk (reads_keep HR.out hk8 HNE.out HSZ.out); have HZ8 := Aside0.mk (Nat.lt_of_lt_of_le HSZ.out hk8.1); clear hi8 hn8 hk8)
              go_roundg k1
              case measure => omega
              case rel => exact ⟨i + 1, own, n8, rfl, by rw [E1.out], ⟨by have := HK.out; omega⟩, HL3, ⟨by have := HN8.out; have := HNN.out; rw [← HSM.out]; omega⟩, HI8, HK8, HR8, HZ8⟩
            · have HL3 : Aside0 (dlp (dgain k l (dval k l m) so) ((bytesOf s).drop (i + 1)) (decide (i + 1 = 0)) best = some r) := ⟨by rw [HDC.out]; have h_ := HL2.out; rw [if_neg (by rintro (h_ | h_); exact h0 (of_decide_eq_true h_); exact hgt h_)] at h_; exact h_⟩
              have hgd : decide (best < own) = false := decide_eq_false hgt
              clear HL2
              go_wp2_with (go_at_call 87; (refine (gain_calls k l m w0 d q A c hr0 hc0 IH.out so x own n' _ HG.out HI.out HNB.out).mono ?_); rintro e w8 ⟨rfl, hk8, n8, hn8, hi8⟩; have HI8 := Aside0.mk hi8; have HN8 := Aside0.mk hn8; have HK8 := Aside0.mk (HKB.out.trans hk8 (.inl rfl)); have HR8 := Aside0.mk (reads_keep HR.out hk8 HNE.out HSZ.out); have HZ8 := Aside0.mk (Nat.lt_of_lt_of_le HSZ.out hk8.1); clear hi8 hn8 hk8)
              go_roundg k1
              case measure => omega
              case rel => exact ⟨i + 1, best, n8, rfl, by rw [E1.out], ⟨by have := HK.out; omega⟩, HL3, ⟨by have := HN8.out; have := HNN.out; rw [← HSM.out]; omega⟩, HI8, HK8, HR8, HZ8⟩
        · obtain rfl : i = s.size := by have := HK.out; omega
          have hl := HL.out
          rw [List.drop_of_length_le (by rw [bytesOf_length]; exact Nat.le_refl _)] at hl
          obtain rfl := Option.some.inj hl
          obtain ⟨D2, hown2, hkn2⟩ := HI.out.mp
          have HO2 := Aside0.mk hown2
          have HKN2 := Aside0.mk hkn2
          have HW := Aside0.mk (dval_wf k l (m + 1) so best HALL.out)
          have hib : s.size * 3 ^ m ≤ 2 * 3 ^ m := Nat.mul_le_mul_right _ HC2.out.1
          have HNB : Aside0 (n' + 1 ≤ n + 3 ^ (m + 1) ∧ n' < 1000000000000) := ⟨by have := HNN.out; have := HN.out; have := HP.out; have := HP0.out; omega⟩
          clear hl hown2 hkn2 HL hib
          go_wp2_with (at_mapUpdate; refine wpList_mapUpdate_own _ rfl (.tmp 52) (.tmp 53) (.tmp 54) 114 rfl 9 3 (Maps.string_keyed Try.underlying9) Try.underlying114 _ q n' D2 rfl HO2.out (by have := HNB.out.2; simp only [maxLen]; omega) _ _ (.string so.data.toList) rfl rfl HKEY.out (.lit (.int .i64 best)) [] (plainElem_int Try.underlying3 HW.out) ?_; intro w9 hown9 hg9; have HO9 := Aside0.mk hown9; have HG9 := Aside0.mk hg9; clear hown9 hg9)
          go_ret
          have hdq : d ≠ q := by
            rintro rfl
            obtain ⟨es, cl, hh_, _⟩ := HO2.out
            have hb_ := HI.out.blk
            rw [hh_] at hb_
            cases hb_
          refine ⟨rfl, HKB.out.trans (KeepBut.of_row HG9.out) (.inl rfl), n' + 1, HNB.out.1, ⟨blk_grown HI.out.blk HG9.out (fun e_ => hdq (by injection e_)), ⟨_, HO9.out, knows_put HO2.out.isMap HKN2.out HALL.out⟩, HI.out.bel.grown HG9.out HI.out.bel.size (fun k_ hk_ => by injection hk_ with hk_; subst hk_; exact HI.out.gq), HI.out.gd, HI.out.gq⟩⟩
set_option maxHeartbeats 8000000 in
set_option maxRecDepth 100000 in
theorem duelOf_calls (k : Nat) (l : List Int) (A : Option Addr) (c : Nat) (so : ByteArray) (b : Bool) (w : World) (hr0 : Kd.C (Kd.int .i64) w A l.length l) (hc0 : l.length ≤ c) (h : impl_isDuel.f k l so = some b) :
    Calls Try.prog 77 #[.slice A l.length c, .string so] w fun e w' => e = .returned (.tuple #[.pointer (some ⟨w.heap.size + 1, 0, none⟩), .bool b]) ∧ DInv w w' (w.heap.size + 1) w.heap.size A c l k 1 := by
  have hmm := @run_makeMap Try.prog
  have HR0 := Aside0.mk hr0
  have HC0 := Aside0.mk hc0
  have H := Aside0.mk h
  clear hr0 hc0 h
  go_enter Try.func77, Try.ntmps77
  go_wp2_with (go_at_call 83; (with_reducible refine (impl_isDuel.calls k A c l so b _ (by repeat (first | exact HR0.out | (with_reducible refine Kd.C_alloc ?_ _) | (with_reducible refine Kd.C_drewN ?_ _) | (with_reducible refine Kd.C_drew ?_))) HC0.out H.out).mono ?_); rintro e w6 ⟨rfl, ⟨nd, rfl⟩⟩)
  go_ret2
  refine ⟨rfl, DInv.below (w := (w.alloc (.map #[] 0)).alloc (.cells #[.slice A l.length c, .map (some w.heap.size)] 116)) ⟨?_, ⟨.map [], ?_, ?_⟩, ?_, by omega, Nat.le_refl _⟩ (pw_below_drewN (Below.refl _ _) _)⟩
  · have h_ := blk_new (w.alloc (.map #[] 0)) (.cells #[.slice A l.length c, .map (some w.heap.size)] 116)
    rwa [World.size_alloc] at h_
  · exact ((World.ownsMap_made w Try.prog 9 (plainElem Try.prog 3)).mono (by omega : 0 ≤ 1)).alloc _
  · intro s hh
    simp [Maps.has] at hh
  · exact below_alloc (below_alloc (Below.refl _ _) _) _
def impl_DuelValue.f (k : Nat) (l : List Int) (so : ByteArray) : Option (Int × Bool) := (impl_isDuel.f k l so).bind fun b => if b = true then (dval k l 14 so).bind fun v => some (v, true) else some (0, false)
theorem impl_DuelValue.mono : ∀ a0 a1 k, LeO (impl_DuelValue.f k a0 a1) (impl_DuelValue.f (k + 1) a0 a1) := fun a0 a1 k =>
  LeO.bind (impl_isDuel.mono _ _ _) fun _ => LeO.ite (LeO.bind (dval_mono _ _ _ _) fun _ => LeO.refl _) (LeO.refl _)
set_option maxHeartbeats 8000000 in
set_option maxRecDepth 100000 in
theorem impl_DuelValue.calls (k : Nat) (A0 : Option Addr) (c0 : Nat) (l0 : List Int) (a1 : ByteArray) (r1 : Int) (r2 : Bool) (w : World) (hr0 : Kd.C (Kd.int .i64) w A0 l0.length l0) (hc0 : l0.length ≤ c0) (h : impl_DuelValue.f k l0 a1 = some (r1, r2)) :
    Calls Try.prog 9 #[.slice A0 l0.length c0, .string a1] w fun e w' => e = .returned (.tuple #[.int .i64 r1, .bool r2]) ∧ Below w.heap.size w w' := by
  obtain ⟨b, hb, h⟩ := Option.bind_eq_some_iff.1 h
  have HO := Aside0.mk (duelOf_calls k l0 A0 c0 a1 b w hr0 hc0 hb)
  have HV := Aside0.mk (fun q d => value_calls k l0 w d q A0 c0 hr0 hc0 14)
  cases b with
  | true =>
    rw [if_pos rfl] at h
    obtain ⟨v, hv, h⟩ := Option.bind_eq_some_iff.1 h
    have h' := Option.some.inj h
    simp only [Prod.mk.injEq] at h'
    obtain ⟨rfl, rfl⟩ := h'
    have HVV := Aside0.mk hv
    clear hb hr0 hc0 h hv
    go_enter Try.func9, Try.ntmps9
    go_wp2_with (first
      | (go_at_call 77; (with_reducible refine HO.out.mono ?_); rintro e w6 ⟨rfl, hi⟩; have HI := Aside0.mk hi; clear hi)
      | (go_at_call 78; (refine ((HV.out w.heap.size (w.heap.size + 1)).at_ a1 v 1 _ HVV.out HI.out (by decide)).mono ?_); rintro e w7 ⟨rfl, _, n', _, hi⟩; have HI7 := Aside0.mk hi; clear hi))
    go_ret2
    exact ⟨rfl, HI7.out.bel⟩
  | false =>
    rw [if_neg Bool.false_ne_true] at h
    have h' := Option.some.inj h
    simp only [Prod.mk.injEq] at h'
    obtain ⟨rfl, rfl⟩ := h'
    clear hb hr0 hc0 h HV
    go_enter Try.func9, Try.ntmps9
    go_wp2_with (go_at_call 77; (with_reducible refine HO.out.mono ?_); rintro e w6 ⟨rfl, hi⟩; have HI := Aside0.mk hi; clear hi)
    go_ret2
    exact ⟨rfl, HI.out.bel⟩

end Go.Proofs.Ytnoapomobflknaa.Xw
