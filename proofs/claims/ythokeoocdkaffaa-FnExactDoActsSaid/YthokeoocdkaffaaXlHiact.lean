/- What an act makes of the parts of a yard: the program. -/
import Derived.Test.YthokeoocdkaffaaXl0
import Derived.Test.YthokeoocdkaffaaXl6
import Derived.Test.YthokeoocdkaffaaXl7
import Derived.Test.YthokeoocdkaffaaXlHmake
import Derived.OneCell
import Derived.Lib.SliceRun
import Derived.Shelf.Abstract
import Derived.Deep.RegionHeld3
import Derived.Outline
import Derived.BigQuiet
import Derived.Deep.QuietTactic
import Derived.RegionTactic
import Derived.BigRegion
namespace Go.Proofs.Ythokeoocdkaffaa.Xl
open Go.RowKit Go.Proofs.YthokeoocdkaffaaW.PrintWords Go.Proofs.YthokeoocdkaffaaW.PrintLast Go.Proofs.YthokeoocdkaffaaW.PrintMore
attribute [local go_sem] max2_int min2_int max_two min_two max_three min_three max_four min_four
set_option linter.unusedVariables false
set_option linter.unusedSimpArgs false
section
variable {P : Program} {ops : Array Oper} {Q : Exit → Act → World → Prop} {md : Region.Mode} {S : World → Prop} {st : Nat}
/-- As 'wpAnyH', but S is asked for only as long as operation 'st' has not come up. -/
def wpAnyX (P : Program) (md : Region.Mode) (ops : Array Oper) (Q : Exit → Act → World → Prop) (S : World → Prop) (st : Nat) : Nat → Array Bool → Act → World → Prop
  | 0, listed, a, w => Region.ready md ops listed = [] ∧ Q .normal a w
  | fuel + 1, listed, a, w =>
    (Region.ready md ops listed = [] → Q .normal a w) ∧
    ∀ i ∈ Region.ready md ops listed, wpOp P ops Q i (fun a' w' => ((listed.setIfInBounds i true).getD st true = false → S w') ∧ wpAnyX P md ops Q S st fuel (listed.setIfInBounds i true) a' w') a w
theorem wpAny_of_X : ∀ (fuel : Nat) (listed : Array Bool) (a : Act) (w : World), wpAnyX P md ops Q S st fuel listed a w → wpAny P md ops Q fuel listed a w
  | 0, _, _, _, h => h
  | fuel + 1, _, _, _, h => ⟨h.1, fun i hi => wpOp_mono (fun a' w' h' => wpAny_of_X fuel _ a' w' h'.2) (h.2 i hi)⟩
theorem getD_set_false {listed : Array Bool} {i j : Nat} (h : (listed.setIfInBounds i true).getD j true = false) : listed.getD j true = false ∧ i ≠ j := by
  by_cases hij : i = j
  · subst hij
    by_cases hlt : i < listed.size
    · simp [hlt] at h
    · simp [hlt] at h
  · exact ⟨by rw [getD_set_ne true hij] at h; exact h, hij⟩
theorem wpAnyX_first {i : Nat} {oi : Oper} {v : Value} {S1 : World → Prop} (hi : ops[i]? = some oi) (hsel : ∀ (j : Nat) (o : Oper) cs b, ops[j]? = some o → o.op ≠ .select cs b)
    (hQ : ∀ c a w, Q (.panic c) (a.put oi.dst v) w → Q (.panic c) a w) (hne : i ≠ st)
    (hwait : (∀ w, S1 w) ∨ ((∀ w, S w → S1 w) ∧ ∀ o, ops[st]? = some o → ∃ e ∈ o.after, Region.binds md e = true ∧ e.on = i)) :
    ∀ (fuel : Nat) (listed : Array Bool) (a : Act) (w : World),
      (∀ j oj, ops[j]? = some oj → j ≠ i → listed.getD j true = false → (∀ e ∈ oj.after, Region.binds md e = true → e.on ≠ i) → oi.apart ops oj = true) →
      i ∈ Region.ready md ops listed → YieldsIf P ops S1 oi v a → ((∀ w, S1 w) ∨ listed.getD st true = false) → (listed.getD st true = false → S w) →
      wpAnyX P md ops Q S st fuel (listed.setIfInBounds i true) (a.put oi.dst v) w → wpAnyX P md ops Q S st (fuel + 1) listed a w := by
  intro fuel
  have toS1 : ∀ (listed : Array Bool) (w : World), ((∀ w, S1 w) ∨ listed.getD st true = false) → (listed.getD st true = false → S w) → S1 w := by
    intro listed w hf hS
    rcases hwait with h | ⟨h, _⟩
    · exact h w
    · rcases hf with h2 | h2
      · exact h2 w
      · exact h w (hS h2)
  induction fuel with
  | zero =>
    intro listed a w _ hr hy hf hS H
    refine ⟨fun h => (by rw [h] at hr; cases hr), fun j hj => ?_⟩
    by_cases hji : j = i
    · subst hji; exact hy.wpOp hi (toS1 _ _ hf hS) ⟨fun h => hS (getD_set_false h).1, H⟩
    · have := ready_mono hj hji
      rw [H.1] at this
      cases this
  | succ fuel ih =>
    intro listed a w hfree hr hy hf hS H
    refine ⟨fun h => (by rw [h] at hr; cases hr), fun j hj => ?_⟩
    by_cases hji : j = i
    · subst hji; exact hy.wpOp hi (toS1 _ _ hf hS) ⟨fun h => hS (getD_set_false h).1, H⟩
    · have h1 := H.2 j (ready_mono hj hji)
      obtain ⟨hjun, oj, hoj, hall⟩ := mem_ready.1 hj
      have hnot : ∀ e ∈ oj.after, Region.binds md e = true → e.on ≠ i := fun e he hb heq => by
        have h1 := hall e he hb
        have h0 := (mem_ready.1 hr).1
        rw [heq] at h1
        rcases Nat.lt_or_ge i listed.size with h' | h'
        · simp [h'] at h0 h1; rw [h0] at h1; cases h1
        · simp [Array.getElem?_eq_none h'] at h1
      have h2 := wpOp_putIf hoj (hfree j oj hoj hji hjun hnot) (fun cs b => hsel i oi cs b hi) (fun cs b => hsel j oj cs b hoj) hQ hy h1
      have hfree' : ∀ k ok, ops[k]? = some ok → k ≠ i → (listed.setIfInBounds j true).getD k true = false →
          (∀ e ∈ ok.after, Region.binds md e = true → e.on ≠ i) → oi.apart ops ok = true := fun k ok hk hki hun hno => by
        refine hfree k ok hk hki ?_ hno
        by_cases hjk : j = k
        · subst hjk; exact hjun
        · rw [getD_set_ne true hjk] at hun; exact hun
      have hf' : (∀ w, S1 w) ∨ (listed.setIfInBounds j true).getD st true = false := by
        rcases hwait with h | ⟨_, h⟩
        · exact Or.inl h
        · rcases hf with h3 | h3
          · exact Or.inl h3
          · refine Or.inr ?_
            have hjs : j ≠ st := by
              rintro rfl
              obtain ⟨e, he, hb, ho⟩ := h oj hoj
              exact hnot e he hb ho
            rw [getD_set_ne true hjs]
            exact h3
      refine wpOp_mono (fun a' w' h3 => ?_) h2
      have hS' : (listed.setIfInBounds j true).getD st true = false → S w' := fun h => h3.2.1 (by
        have h4 := getD_set_false h
        rw [getD_set_ne true h4.2, getD_set_ne true hne]
        exact h4.1)
      refine ⟨hS', ih (listed.setIfInBounds j true) a' w' hfree' (ready_mono hr (Ne.symm hji)) h3.1 hf' hS' ?_⟩
      rw [Array.setIfInBounds_comm _ _ hji]
      exact h3.2.2
/-- Whether operation 'st' waits for operation 'i'. -/
def waitsB (md : Region.Mode) (ops : Array Oper) (st i : Nat) : Bool := match ops[st]? with
  | some o => o.after.any fun e => Region.binds md e && e.on == i
  | none => true
theorem waits_spec {i : Nat} (h : waitsB md ops st i = true) : ∀ o, ops[st]? = some o → ∃ e ∈ o.after, Region.binds md e = true ∧ e.on = i := by
  intro o ho
  unfold waitsB at h
  rw [ho] at h
  simp only [Array.any_eq_true'] at h
  obtain ⟨e, he, hb⟩ := h
  simp only [Bool.and_eq_true, beq_iff_eq] at hb
  exact ⟨e, he, hb.1, hb.2⟩
/-- Take a reading operation first, ahead of 'st', which waits for it. -/
theorem wpAnyX_takeS {i : Nat} {oi : Oper} {v : Value} {fuel : Nat} {listed : Array Bool} {a : Act} {w : World} (hi : ops[i]? = some oi)
    (hs : Region.noSelect ops = true) (hf : Region.free md ops listed i = true) (hr : (Region.ready md ops listed).contains i = true) (hne : (i == st) = false) (hw : waitsB md ops st i = true) (hun : listed.getD st true = false)
    (hQ : ∀ c a w, Q (.panic c) (a.put oi.dst v) w → Q (.panic c) a w) (hy : YieldsIf P ops S oi v a) (hS : S w)
    (h : wpAnyX P md ops Q S st fuel (listed.setIfInBounds i true) (a.put oi.dst v) w) : wpAnyX P md ops Q S st (fuel + 1) listed a w :=
  wpAnyX_first (S1 := S) hi (Region.noSelect_spec hs) hQ (ne_of_beq_false hne) (Or.inr ⟨fun _ h => h, waits_spec hw⟩) fuel listed a w (Region.free_spec hi hf) (by simpa using hr) hy (Or.inr hun) (fun _ => hS) h
/-- Take an operation first that yields its value in whatever world. -/
theorem wpAnyX_takeP {i : Nat} {oi : Oper} {v : Value} {fuel : Nat} {listed : Array Bool} {a : Act} {w : World} (hi : ops[i]? = some oi)
    (hs : Region.noSelect ops = true) (hf : Region.free md ops listed i = true) (hr : (Region.ready md ops listed).contains i = true) (hne : (i == st) = false)
    (hQ : ∀ c a w, Q (.panic c) (a.put oi.dst v) w → Q (.panic c) a w) (hy : YieldsIf P ops (fun _ => True) oi v a) (hS : listed.getD st true = false → S w)
    (h : wpAnyX P md ops Q S st fuel (listed.setIfInBounds i true) (a.put oi.dst v) w) : wpAnyX P md ops Q S st (fuel + 1) listed a w :=
  wpAnyX_first (S1 := fun _ => True) hi (Region.noSelect_spec hs) hQ (ne_of_beq_false hne) (Or.inl fun _ => trivial) fuel listed a w (Region.free_spec hi hf) (by simpa using hr) hy (Or.inl fun _ => trivial) hS h
theorem wpAnyX_oneS {i : Nat} {o : Oper} {fuel : Nat} {listed : Array Bool} {a : Act} {w : World} (hr : Region.ready md ops listed = [i]) (ho : ops[i]? = some o)
    (h : ∀ K' : Act → World → Prop, Shut (∀ a w, S w → (S w → wpAnyX P md ops Q S st fuel (listed.setIfInBounds i true) a w) → K' a w) → if Region.wanted o (yielded ops a.tmps) = true then Oper.wp P o a w K' Q else K' (a.put o.dst undef) w) : wpAnyX P md ops Q S st (fuel + 1) listed a w := by
  refine ⟨fun h0 => absurd (hr ▸ h0) (by simp), fun j hj => ?_⟩
  rw [hr] at hj
  obtain rfl := List.mem_singleton.1 hj
  exact wpOp_step ho (fun K' hK => h K' (fun a w hS hW => hK a w ⟨fun _ => hS, hW hS⟩))
theorem wpAnyX_oneF {i : Nat} {o : Oper} {fuel : Nat} {listed : Array Bool} {a : Act} {w : World} (hr : Region.ready md ops listed = [i]) (ho : ops[i]? = some o) (hst : (listed.setIfInBounds i true).getD st true = true)
    (h : ∀ K' : Act → World → Prop, Shut (∀ a w, wpAnyX P md ops Q S st fuel (listed.setIfInBounds i true) a w → K' a w) → if Region.wanted o (yielded ops a.tmps) = true then Oper.wp P o a w K' Q else K' (a.put o.dst undef) w) : wpAnyX P md ops Q S st (fuel + 1) listed a w := by
  refine ⟨fun h0 => absurd (hr ▸ h0) (by simp), fun j hj => ?_⟩
  rw [hr] at hj
  obtain rfl := List.mem_singleton.1 hj
  exact wpOp_step ho (fun K' hK => h K' (fun a w hW => hK a w ⟨fun h1 => absurd h1 (by rw [hst]; decide), hW⟩))
theorem wpAnyX_done {listed : Array Bool} {a : Act} {w : World} (hr : Region.ready md ops listed = []) (h : Q .normal a w) :
    ∀ fuel, wpAnyX P md ops Q S st fuel listed a w
  | 0 => ⟨hr, h⟩
  | _ + 1 => ⟨fun _ => h, by rw [hr]; simp⟩
theorem wp_region_X (st : Nat) {id : Nat} {a : Act} {w : World} (hm : P.follows .mixedOrders = true) (hS : S w.drew)
    (h : S w.drew → wpAnyX P .any ops Q S st ops.size (Array.replicate ops.size false) a w.drew) : (Code.region id ops true).wp P Q a w :=
  wp_region_any hm (wpAny_of_X _ _ _ _ (h hS))
end
/-- A row that is read in every world that has the blocks from B on, the three that begin with m and the block gx left out. -/
def StaysA (B m gx : Nat) (w8 W : World) : Prop := w8.heap.size ≤ W.heap.size ∧ ∀ k, B ≤ k → k < w8.heap.size → ((k < m ∧ k ≠ gx) ∨ m + 3 ≤ k) → W.heap[k]? = w8.heap[k]?
def RowA (B m gx : Nat) (w8 : World) (A : Option Addr) (n c : Nat) (l : List Int) : Prop := n = l.length ∧ n ≤ c ∧ ∀ W, StaysA B m gx w8 W → Kd.C (Kd.int .i64) W A l.length l
theorem StaysA.refl (B m gx : Nat) (w8 : World) : StaysA B m gx w8 w8 := ⟨Nat.le_refl _, fun _ _ _ _ => rfl⟩
theorem RowA.of {B m gx base n c : Nat} {w8 : World} {A : Option Addr} {l : List Int} {ok : Nat → Prop} (h : Kd.R (Kd.int .i64) 3 w8 base ok (.slice A n c) l) (hB : B ≤ base) (hok : ∀ k, ok k → base ≤ k → (k < m ∧ k ≠ gx) ∨ m + 3 ≤ k) : RowA B m gx w8 A n c l := by
  obtain ⟨h1, h2, _⟩ := Kd.R_reads' h
  subst h1
  exact ⟨rfl, h2, fun W hW => (Kd.R_reads' (Kd.R_move (Kd.R_bound h) (fun k hk => hW.2 k (Nat.le_trans hB hk.2.1) hk.2.2.1 (hok k hk.1 hk.2.1)))).2.2⟩
theorem RowA.map {B m gx n c n' c' : Nat} {w8 : World} {A A' : Option Addr} {l l' : List Int} (h : RowA B m gx w8 A n c l) (hn : n' = l'.length) (hc : n' ≤ c') (f : ∀ W, Kd.C (Kd.int .i64) W A l.length l → Kd.C (Kd.int .i64) W A' l'.length l') : RowA B m gx w8 A' n' c' l' := ⟨hn, hc, fun W hW => f W (h.2.2 W hW)⟩
theorem RowA.later {B m gx n c : Nat} {w8 w9 : World} {A : Option Addr} {l : List Int} (h : RowA B m gx w8 A n c l) (hs : w8.heap.size ≤ w9.heap.size) (ho : ∀ k, k < w8.heap.size → ((k < m ∧ k ≠ gx) ∨ m + 3 ≤ k) → w9.heap[k]? = w8.heap[k]?) : RowA B m gx w9 A n c l :=
  ⟨h.1, h.2.1, fun W hW => h.2.2 W ⟨Nat.le_trans hs hW.1, fun k h1 h2 h3 => (hW.2 k h1 (by omega) h3).trans (ho k h2 h3)⟩⟩
/-- A row that is read in every world that has the blocks from B on, block gx left out. -/
def StaysG (B gx : Nat) (w8 W : World) : Prop := w8.heap.size ≤ W.heap.size ∧ ∀ k, B ≤ k → k < w8.heap.size → k ≠ gx → W.heap[k]? = w8.heap[k]?
def RowG (B gx : Nat) (w8 : World) (A : Option Addr) (n c : Nat) (l : List Int) : Prop := n = l.length ∧ n ≤ c ∧ ∀ W, StaysG B gx w8 W → Kd.C (Kd.int .i64) W A l.length l
theorem RowG.nil {B gx : Nat} {w8 : World} : RowG B gx w8 none 0 0 [] := ⟨rfl, Nat.le_refl _, fun _ _ => Kd.C_nil _ _⟩
theorem RowA.toS {B m gx n c : Nat} {w8 w9 : World} {A : Option Addr} {l : List Int} (h : RowA B m gx w8 A n c l) (hg : gx < m) (hs : w9.heap.size = w8.heap.size ∧ (∀ k_, k_ ≠ m + 1 + 1 → w9.heap[k_]? = w8.heap[k_]?)) : RowG B gx w9 A n c l :=
  ⟨h.1, h.2.1, fun W hW => h.2.2 W ⟨by rw [← hs.1]; exact hW.1, fun k h1 h2 h3 => (hW.2 k h1 (by rw [hs.1]; exact h2) (by omega)).trans (hs.2 k (by omega))⟩⟩
theorem drop1_of {P : Program} (SLt e : TypeId) {i : TypeInfo} (ht : P.underlying SLt = some (.slice e)) (hi : P.info? e = some i) (hsz : i.size = 1) (A : Option Addr) (c : Nat) (xs : List Int) (hm : 1 ≤ xs.length) (hc : xs.length ≤ c) :
    ∃ (A' : Option Addr) (lx : List Int) (cx : Nat), lx = xs.drop 1 ∧ lx.length ≤ cx ∧ (∀ W : World, (Instr.slice SLt (.slice A xs.length c) (some (.int .i64 1)) none none).run P W = .ok (.slice A' lx.length cx) W) ∧ (∀ W : World, Kd.C (Kd.int .i64) W A xs.length xs → Kd.C (Kd.int .i64) W A' lx.length lx) := by
  obtain ⟨A', h1, h2, h3⟩ := print_drop_of (P := P) (Value.int .i64) 0 SLt e .i64 ht hi hsz A c xs 1 (by omega) (by omega) hc
  exact ⟨A', xs.drop 1, c - 1, rfl, h3, h1, fun W h => Kd.C_of_reads (h2 W (Kd.reads_of_C h))⟩
theorem takeJ_of {P : Program} (SLt e : TypeId) {i : TypeInfo} (ht : P.underlying SLt = some (.slice e)) (hi : P.info? e = some i) (hsz : i.size = 1) (A : Option Addr) (c : Nat) (xs : List Int) (j : Int) (h0 : 0 ≤ j) (hm : j ≤ xs.length) (hc : xs.length ≤ c) :
    ∃ (lx : List Int), lx = xs.take j.toNat ∧ lx.length ≤ c ∧ (∀ W : World, (Instr.slice SLt (.slice A xs.length c) none (some (.int .i64 j)) none).run P W = .ok (.slice A lx.length c) W) ∧ (∀ W : World, Kd.C (Kd.int .i64) W A xs.length xs → Kd.C (Kd.int .i64) W A lx.length lx) := by
  obtain ⟨h1, h2, h3⟩ := print_take_of (P := P) (Value.int .i64) 0 SLt e .i64 ht hi hsz A c xs j h0 hm hc
  exact ⟨xs.take j.toNat, rfl, h3, h1, fun W h => Kd.C_of_reads (h2 W (Kd.reads_of_C h))⟩
theorem frz {w : World} {g : Nat} {e : TypeId} {cs : Array Value} (h : w.heap[g]? = some (.cells cs e (0, 0))) (i : Nat) : w.frozen? ⟨g, i, none⟩ = false := by simp [World.frozen?, h]
def ActR (B gx : Nat) (w' : World) (r : Option (List Int × List Int × List Int)) (X0 : Option Addr) (n0 d0 : Nat) (X1 : Option Addr) (n1 d1 : Nat) (X2 : Option Addr) (n2 d2 : Nat) : Prop := ∀ x, r = some x → RowG B gx w' X0 n0 d0 x.1 ∧ RowG B gx w' X1 n1 d1 x.2.1 ∧ RowG B gx w' X2 n2 d2 x.2.2
theorem zf_ob (aa bb : Int) (ob : Bool) (h : ob = decide (aa = 0 ∧ bb = 0)) (x : List Int × List Int × List Int) : zfA aa bb x = if ob = true then some x else none := by
  subst h
  unfold zfA
  by_cases hc : aa = 0 ∧ bb = 0
  · rw [if_pos hc, if_pos (decide_eq_true hc)]
  · rw [if_neg hc, if_neg (by rw [decide_eq_false hc]; decide)]
def okR (ob : Bool) (x : List Int × List Int × List Int) : Option (List Int × List Int × List Int) := if ob = true then some x else none
theorem okR_some (ob : Bool) (x : List Int × List Int × List Int) : (okR ob x).isSome = ob := by cases ob <;> rfl
theorem okR_eq {ob : Bool} {x y : List Int × List Int × List Int} (h : okR ob x = some y) : x = y := by
  unfold okR at h
  split at h
  · exact Option.some.inj h
  · cases h
theorem toN_cast (n : Nat) : ((n : Int)).toNat = n := Int.toNat_natCast n
set_option maxHeartbeats 16000000 in
set_option maxRecDepth 100000 in
theorem iact_walk (k B s1 s2 gx : Nat) (A0 : Option Addr) (c0 : Nat) (L0 : List Int) (A1 : Option Addr) (c1 : Nat) (L1 : List Int) (A2 : Option Addr) (c2 : Nat) (L2 : List Int) (kd aa bb : Int) (r : Option (List Int × List Int × List Int)) (w : World)
    (hs : s1 ≤ s2) (hB : B ≤ w.heap.size) (hgx : gx < w.heap.size) (R0 : Kd.R (Kd.int .i64) 3 w B (fun k_ => k_ < s1 ∧ k_ ≠ gx) (.slice A0 L0.length c0) L0) (R1 : Kd.R (Kd.int .i64) 3 w B (fun k_ => (s1 ≤ k_ ∧ k_ < s2) ∧ k_ ≠ gx) (.slice A1 L1.length c1) L1) (R2 : Kd.R (Kd.int .i64) 3 w B (fun k_ => s2 ≤ k_ ∧ k_ ≠ gx) (.slice A2 L2.length c2) L2)
    (hl0 : L0.length ≤ 7) (hl1 : L1.length ≤ 7) (hl2 : L2.length ≤ 7) (h : mkF (impl_back.f k) (impl_OrderAt.f k) L0 L1 L2 kd aa bb = some r) :
    Calls Try.prog 43 #[.agg #[.slice A0 L0.length c0, .slice A1 L1.length c1, .slice A2 L2.length c2], .agg #[.int .i64 kd, .int .i64 aa, .int .i64 bb]] w fun e w' => ∃ (X0 : Option Addr) (n0 d0 : Nat) (X1 : Option Addr) (n1 d1 : Nat) (X2 : Option Addr) (n2 d2 : Nat), e = .returned (.tuple #[.agg #[.slice X0 n0 d0, .slice X1 n1 d1, .slice X2 n2 d2], .bool r.isSome]) ∧ ActR B gx w' r X0 n0 d0 X1 n1 d1 X2 n2 d2 ∧ Below B w w' ∧ w'.heap[gx]? = w.heap[gx]? := by
  have hu := Try.underlying62
  have hi : (Try.prog.info? 62).map (·.size) = some 3 := by kernel_rfl
  obtain ⟨i0, hi0, _, hsz0, _⟩ := info_parts info3
  have z1 := blk_alloc (blk_alloc (blk_new w (.cells #[.slice A0 L0.length c0, .slice A1 L1.length c1, .slice A2 L2.length c2] 62)) (.cells #[.int .i64 kd, .int .i64 aa, .int .i64 bb] 49)) (.cells #[.slice none 0 0, .slice none 0 0, .slice none 0 0] 62)
  have z2 := blk_alloc (blk_new (w.alloc (.cells #[.slice A0 L0.length c0, .slice A1 L1.length c1, .slice A2 L2.length c2] 62)) (.cells #[.int .i64 kd, .int .i64 aa, .int .i64 bb] 49)) (.cells #[.slice none 0 0, .slice none 0 0, .slice none 0 0] 62)
  have z3 := blk_new ((w.alloc (.cells #[.slice A0 L0.length c0, .slice A1 L1.length c1, .slice A2 L2.length c2] 62)).alloc (.cells #[.int .i64 kd, .int .i64 aa, .int .i64 bb] 49)) (.cells #[.slice none 0 0, .slice none 0 0, .slice none 0 0] 62)
  rw [World.size_alloc, World.size_alloc] at z3
  rw [World.size_alloc] at z2
  obtain ⟨w1, hw1⟩ : ∃ w1, w1 = ((w.alloc (.cells #[.slice A0 L0.length c0, .slice A1 L1.length c1, .slice A2 L2.length c2] 62)).alloc (.cells #[.int .i64 kd, .int .i64 aa, .int .i64 bb] 49)).alloc (.cells #[.slice none 0 0, .slice none 0 0, .slice none 0 0] 62) := ⟨_, rfl⟩
  have HB0 := Aside0.mk (show Below w.heap.size w w1 by rw [hw1]; exact below_alloc (below_alloc (below_alloc (Below.refl _ _) _) _) _)
  have HSZ := Aside0.mk (show w1.heap.size = w.heap.size + 3 by rw [hw1]; simp only [World.size_alloc])
  have HR0 := Aside0.mk (Kd.R_bound R0)
  have HR1 := Aside0.mk (Kd.R_bound R1)
  have HR2 := Aside0.mk (Kd.R_bound R2)
  rw [← hw1] at z1 z2 z3
  have Z1 := Aside0.mk z1
  have Z2 := Aside0.mk z2
  have Z3 := Aside0.mk z3
  have HB := Aside0.mk hB
  have HGX := Aside0.mk hgx
  have HS12 := Aside0.mk hs
  have HL0 := Aside0.mk hl0
  have HL1 := Aside0.mk hl1
  have HL2 := Aside0.mk hl2
  have H := Aside0.mk h
  obtain ⟨ob, hob⟩ : ∃ ob, ob = decide (aa = 0 ∧ bb = 0) := ⟨_, rfl⟩
  have HOB := Aside0.mk hob
  obtain ⟨ji, hji⟩ : ∃ ji : Int, (L1.length : Int) - 1 = ji := ⟨_, rfl⟩
  have HJ := Aside0.mk hji
  clear z1 z2 z3 h hs hB hgx hl0 hl1 hl2 R0 R1 R2 hob hji
  go_enter Try.func43, Try.ntmps43
  go_upto_region 1 with fail
  rw [← hw1]
  clear hw1
  go_cut [6, 7] from 10 to 21 (fun v6 v7 wx => v6 = .int .i64 ji ∧ v7 = .bool ob ∧ Aside0 (Below w1.heap.size w1 wx))
  case first =>
    have hji := HJ.out
    have hlm := HL1.out
    by_cases ha : aa = 0
    · have ha1 : (aa == 0) = true := beq_iff_eq.mpr ha
      have hob2 : ob = (bb == 0) := by rw [HOB.out]; rw [Bool.eq_iff_iff]; simp [ha]
      have HO2 := Aside0.mk hob2
      clear ha hob2
      refine wp_region_held_drew (S := (fun W => W.heap[w.heap.size]? = some (.cells #[.slice A0 L0.length c0, .slice A1 L1.length c1, .slice A2 L2.length c2] 62) ∧ W.heap[w.heap.size + 1]? = some (.cells #[.int .i64 kd, .int .i64 aa, .int .i64 bb] 49))) (by kernel_rfl) ⟨Z1.out, Z2.out⟩ (fun hHeld => ?_)
      refine wpAnyH_take (i := 0) (oi := ?oiqt0) (v := ?vqt0) ?hiqt0 (by kernel_rfl) (by kernel_rfl) (by kernel_rfl) ?hQqt0 ?hyqt0 hHeld ?hqt0
      case hiqt0 => (simp only [gAx, gSx, gZx]; rfl)
      case hQqt0 => exact fun _ _ _ h => h
      case hyqt0 => exact Or.inl ⟨by rfl, by intro w_ hSw; (try dsimp only at hSw); first | (go_simp; done) | (go_simp; with_reducible rfl)⟩
      try simp only [Act.put, sAx, sZx, sSx]
      refine wpAnyH_take (i := 1) (oi := ?oiqt1) (v := (.slice A1 L1.length c1)) ?hiqt1 (by kernel_rfl) (by kernel_rfl) (by kernel_rfl) ?hQqt1 ?hyqt1 hHeld ?hqt1
      case hiqt1 => (simp only [gAx, gSx, gZx]; rfl)
      case hQqt1 => exact fun _ _ _ h => h
      case hyqt1 => exact Or.inl ⟨by rfl, by intro w_ hSw; obtain ⟨h0_, h1_, h2_⟩ := cellsA hSw.1; first | (go_simp; done) | (go_simp; with_reducible rfl)⟩
      try simp only [Act.put, sAx, sZx, sSx]
      refine wpAnyH_take (i := 2) (oi := ?oiqt2) (v := ?vqt2) ?hiqt2 (by kernel_rfl) (by kernel_rfl) (by kernel_rfl) ?hQqt2 ?hyqt2 hHeld ?hqt2
      case hiqt2 => (simp only [gAx, gSx, gZx]; rfl)
      case hQqt2 => exact fun _ _ _ h => h
      case hyqt2 => exact Or.inl ⟨by rfl, by intro w_ hSw; (try dsimp only at hSw); first | (go_simp; done) | (go_simp; with_reducible rfl)⟩
      try simp only [Act.put, sAx, sZx, sSx]
      refine wpAnyH_take (i := 3) (oi := ?oiqt3) (v := ?vqt3) ?hiqt3 (by kernel_rfl) (by kernel_rfl) (by kernel_rfl) ?hQqt3 ?hyqt3 hHeld ?hqt3
      case hiqt3 => (simp only [gAx, gSx, gZx]; rfl)
      case hQqt3 => exact fun _ _ _ h => h
      case hyqt3 => exact Or.inl ⟨by rfl, by intro w_ hSw; (try dsimp only at hSw); first | (go_simp; done) | (go_simp; with_reducible rfl)⟩
      try simp only [Act.put, sAx, sZx, sSx]
      refine wpAnyH_take (i := 4) (oi := ?oiqt4) (v := ?vqt4) ?hiqt4 (by kernel_rfl) (by kernel_rfl) (by kernel_rfl) ?hQqt4 ?hyqt4 hHeld ?hqt4
      case hiqt4 => (simp only [gAx, gSx, gZx]; rfl)
      case hQqt4 => exact fun _ _ _ h => h
      case hyqt4 => exact Or.inl ⟨by rfl, by intro w_ hSw; (try dsimp only at hSw); first | (go_simp; done) | (go_simp; with_reducible rfl)⟩
      try simp only [Act.put, sAx, sZx, sSx]
      refine wpAnyH_take (i := 5) (oi := ?oiqt5) (v := (.int .i64 aa)) ?hiqt5 (by kernel_rfl) (by kernel_rfl) (by kernel_rfl) ?hQqt5 ?hyqt5 hHeld ?hqt5
      case hiqt5 => (simp only [gAx, gSx, gZx]; rfl)
      case hQqt5 => exact fun _ _ _ h => h
      case hyqt5 => exact Or.inl ⟨by rfl, by intro w_ hSw; obtain ⟨h0_, h1_, h2_⟩ := cellsA hSw.2; first | (go_simp; done) | (go_simp; with_reducible rfl)⟩
      try simp only [Act.put, sAx, sZx, sSx]
      refine wpAnyH_take (i := 6) (oi := ?oiqt6) (v := ?vqt6) ?hiqt6 (by kernel_rfl) (by kernel_rfl) (by kernel_rfl) ?hQqt6 ?hyqt6 hHeld ?hqt6
      case hiqt6 => (simp only [gAx, gSx, gZx]; rfl)
      case hQqt6 => exact fun _ _ _ h => h
      case hyqt6 => exact Or.inl ⟨by rfl, by intro w_ hSw; (try dsimp only at hSw); first | (go_simp; done) | (go_simp; with_reducible rfl)⟩
      try simp only [Act.put, sAx, sZx, sSx]
      refine wpAnyH_take (i := 7) (oi := ?oiqt7) (v := ?vqt7) ?hiqt7 (by kernel_rfl) (by kernel_rfl) (by kernel_rfl) ?hQqt7 ?hyqt7 hHeld ?hqt7
      case hiqt7 => (simp only [gAx, gSx, gZx]; rfl)
      case hQqt7 => exact fun _ _ _ h => h
      case hyqt7 => exact Or.inl ⟨by rfl, by intro w_ hSw; (try dsimp only at hSw); first | (go_simp; done) | (go_simp; with_reducible rfl)⟩
      try simp only [Act.put, sAx, sZx, sSx]
      refine wpAnyH_take (i := 8) (oi := ?oiqt8) (v := ?vqt8) ?hiqt8 (by kernel_rfl) (by kernel_rfl) (by kernel_rfl) ?hQqt8 ?hyqt8 hHeld ?hqt8
      case hiqt8 => (simp only [gAx, gSx, gZx]; rfl)
      case hQqt8 => exact fun _ _ _ h => h
      case hyqt8 => exact Or.inl ⟨by rfl, by intro w_ hSw; (try dsimp only at hSw); first | (go_simp; done) | (go_simp; with_reducible rfl)⟩
      try simp only [Act.put, sAx, sZx, sSx]
      refine wpAnyH_take (i := 9) (oi := ?oiqt9) (v := (.int .i64 bb)) ?hiqt9 (by kernel_rfl) (by kernel_rfl) (by kernel_rfl) ?hQqt9 ?hyqt9 hHeld ?hqt9
      case hiqt9 => (simp only [gAx, gSx, gZx]; rfl)
      case hQqt9 => exact fun _ _ _ h => h
      case hyqt9 => exact Or.inl ⟨by rfl, by intro w_ hSw; obtain ⟨h0_, h1_, h2_⟩ := cellsA hSw.2; first | (go_simp; done) | (go_simp; with_reducible rfl)⟩
      try simp only [Act.put, sAx, sZx, sSx]
      refine wpAnyH_take (i := 10) (oi := ?oiqt10) (v := ?vqt10) ?hiqt10 (by kernel_rfl) (by kernel_rfl) (by kernel_rfl) ?hQqt10 ?hyqt10 hHeld ?hqt10
      case hiqt10 => (simp only [gAx, gSx, gZx]; rfl)
      case hQqt10 => exact fun _ _ _ h => h
      case hyqt10 => exact Or.inl ⟨by rfl, by intro w_ hSw; (try dsimp only at hSw); first | (go_simp; done) | (go_simp; with_reducible rfl)⟩
      try simp only [Act.put, sAx, sZx, sSx]
      refine wpAnyH_take (i := 11) (oi := ?oiqt11) (v := ?vqt11) ?hiqt11 (by kernel_rfl) (by kernel_rfl) (by kernel_rfl) ?hQqt11 ?hyqt11 hHeld ?hqt11
      case hiqt11 => (simp only [gAx, gSx, gZx]; rfl)
      case hQqt11 => exact fun _ _ _ h => h
      case hyqt11 => exact Or.inl ⟨by rfl, by intro w_ hSw; (try dsimp only at hSw); first | (go_simp; done) | (go_simp; with_reducible rfl)⟩
      try simp only [Act.put, sAx, sZx, sSx]
      refine wpAnyH_take (i := 12) (oi := ?oiqt12) (v := ?vqt12) ?hiqt12 (by kernel_rfl) (by kernel_rfl) (by kernel_rfl) ?hQqt12 ?hyqt12 hHeld ?hqt12
      case hiqt12 => (simp only [gAx, gSx, gZx]; rfl)
      case hQqt12 => exact fun _ _ _ h => h
      case hyqt12 => exact Or.inl ⟨by rfl, by intro w_ hSw; (try dsimp only at hSw); first | (go_simp; done) | (go_simp; with_reducible rfl)⟩
      try simp only [Act.put, sAx, sZx, sSx]
      refine wpAnyH_take (i := 13) (oi := ?oiqt13) (v := ?vqt13) ?hiqt13 (by kernel_rfl) (by kernel_rfl) (by kernel_rfl) ?hQqt13 ?hyqt13 hHeld ?hqt13
      case hiqt13 => (simp only [gAx, gSx, gZx]; rfl)
      case hQqt13 => exact fun _ _ _ h => h
      case hyqt13 => exact Or.inl ⟨by rfl, by intro w_ hSw; (try dsimp only at hSw); first | (go_simp; done) | (go_simp; with_reducible rfl)⟩
      try simp only [Act.put, sAx, sZx, sSx]
      refine wpAnyH_done (by kernel_rfl) ?_ _
      go_wp2_with (fail)
      go_meet
      case rel => exact ⟨by first | rfl | (congr 1; have h1_ := HJ.out; have h2_ := HL1.out; first | omega | (simp only [i64_w]; unfold wrap64; omega)), by rw [HO2.out], ⟨below_drew (Below.refl _ _)⟩⟩
    · have ha1 : (aa == 0) = false := beq_eq_false_iff_ne.mpr ha
      have hob2 : ob = false := by rw [HOB.out]; simp [ha]
      have HO2 := Aside0.mk hob2
      clear ha hob2
      refine wp_region_held_drew (S := (fun W => W.heap[w.heap.size]? = some (.cells #[.slice A0 L0.length c0, .slice A1 L1.length c1, .slice A2 L2.length c2] 62) ∧ W.heap[w.heap.size + 1]? = some (.cells #[.int .i64 kd, .int .i64 aa, .int .i64 bb] 49))) (by kernel_rfl) ⟨Z1.out, Z2.out⟩ (fun hHeld => ?_)
      refine wpAnyH_take (i := 0) (oi := ?oiqf0) (v := ?vqf0) ?hiqf0 (by kernel_rfl) (by kernel_rfl) (by kernel_rfl) ?hQqf0 ?hyqf0 hHeld ?hqf0
      case hiqf0 => (simp only [gAx, gSx, gZx]; rfl)
      case hQqf0 => exact fun _ _ _ h => h
      case hyqf0 => exact Or.inl ⟨by rfl, by intro w_ hSw; (try dsimp only at hSw); first | (go_simp; done) | (go_simp; with_reducible rfl)⟩
      try simp only [Act.put, sAx, sZx, sSx]
      refine wpAnyH_take (i := 1) (oi := ?oiqf1) (v := (.slice A1 L1.length c1)) ?hiqf1 (by kernel_rfl) (by kernel_rfl) (by kernel_rfl) ?hQqf1 ?hyqf1 hHeld ?hqf1
      case hiqf1 => (simp only [gAx, gSx, gZx]; rfl)
      case hQqf1 => exact fun _ _ _ h => h
      case hyqf1 => exact Or.inl ⟨by rfl, by intro w_ hSw; obtain ⟨h0_, h1_, h2_⟩ := cellsA hSw.1; first | (go_simp; done) | (go_simp; with_reducible rfl)⟩
      try simp only [Act.put, sAx, sZx, sSx]
      refine wpAnyH_take (i := 2) (oi := ?oiqf2) (v := ?vqf2) ?hiqf2 (by kernel_rfl) (by kernel_rfl) (by kernel_rfl) ?hQqf2 ?hyqf2 hHeld ?hqf2
      case hiqf2 => (simp only [gAx, gSx, gZx]; rfl)
      case hQqf2 => exact fun _ _ _ h => h
      case hyqf2 => exact Or.inl ⟨by rfl, by intro w_ hSw; (try dsimp only at hSw); first | (go_simp; done) | (go_simp; with_reducible rfl)⟩
      try simp only [Act.put, sAx, sZx, sSx]
      refine wpAnyH_take (i := 3) (oi := ?oiqf3) (v := ?vqf3) ?hiqf3 (by kernel_rfl) (by kernel_rfl) (by kernel_rfl) ?hQqf3 ?hyqf3 hHeld ?hqf3
      case hiqf3 => (simp only [gAx, gSx, gZx]; rfl)
      case hQqf3 => exact fun _ _ _ h => h
      case hyqf3 => exact Or.inl ⟨by rfl, by intro w_ hSw; (try dsimp only at hSw); first | (go_simp; done) | (go_simp; with_reducible rfl)⟩
      try simp only [Act.put, sAx, sZx, sSx]
      refine wpAnyH_take (i := 4) (oi := ?oiqf4) (v := ?vqf4) ?hiqf4 (by kernel_rfl) (by kernel_rfl) (by kernel_rfl) ?hQqf4 ?hyqf4 hHeld ?hqf4
      case hiqf4 => (simp only [gAx, gSx, gZx]; rfl)
      case hQqf4 => exact fun _ _ _ h => h
      case hyqf4 => exact Or.inl ⟨by rfl, by intro w_ hSw; (try dsimp only at hSw); first | (go_simp; done) | (go_simp; with_reducible rfl)⟩
      try simp only [Act.put, sAx, sZx, sSx]
      refine wpAnyH_take (i := 5) (oi := ?oiqf5) (v := (.int .i64 aa)) ?hiqf5 (by kernel_rfl) (by kernel_rfl) (by kernel_rfl) ?hQqf5 ?hyqf5 hHeld ?hqf5
      case hiqf5 => (simp only [gAx, gSx, gZx]; rfl)
      case hQqf5 => exact fun _ _ _ h => h
      case hyqf5 => exact Or.inl ⟨by rfl, by intro w_ hSw; obtain ⟨h0_, h1_, h2_⟩ := cellsA hSw.2; first | (go_simp; done) | (go_simp; with_reducible rfl)⟩
      try simp only [Act.put, sAx, sZx, sSx]
      refine wpAnyH_take (i := 6) (oi := ?oiqf6) (v := ?vqf6) ?hiqf6 (by kernel_rfl) (by kernel_rfl) (by kernel_rfl) ?hQqf6 ?hyqf6 hHeld ?hqf6
      case hiqf6 => (simp only [gAx, gSx, gZx]; rfl)
      case hQqf6 => exact fun _ _ _ h => h
      case hyqf6 => exact Or.inl ⟨by rfl, by intro w_ hSw; (try dsimp only at hSw); first | (go_simp; done) | (go_simp; with_reducible rfl)⟩
      try simp only [Act.put, sAx, sZx, sSx]
      refine wpAnyH_take (i := 7) (oi := ?oiqf7) (v := ?vqf7) ?hiqf7 (by kernel_rfl) (by kernel_rfl) (by kernel_rfl) ?hQqf7 ?hyqf7 hHeld ?hqf7
      case hiqf7 => (simp only [gAx, gSx, gZx]; rfl)
      case hQqf7 => exact fun _ _ _ h => h
      case hyqf7 => exact Or.inl ⟨by rfl, by intro w_ hSw; (try dsimp only at hSw); first | (go_simp; done) | (go_simp; with_reducible rfl)⟩
      try simp only [Act.put, sAx, sZx, sSx]
      refine wpAnyH_take (i := 8) (oi := ?oiqf8) (v := undef) ?hiqf8 (by kernel_rfl) (by kernel_rfl) (by kernel_rfl) ?hQqf8 ?hyqf8 hHeld ?hqf8
      case hiqf8 => (simp only [gAx, gSx, gZx]; rfl)
      case hQqf8 => exact fun _ _ _ h => h
      case hyqf8 => exact Or.inr ⟨by rfl, rfl⟩
      try simp only [Act.put, sAx, sZx, sSx]
      refine wpAnyH_take (i := 9) (oi := ?oiqf9) (v := undef) ?hiqf9 (by kernel_rfl) (by kernel_rfl) (by kernel_rfl) ?hQqf9 ?hyqf9 hHeld ?hqf9
      case hiqf9 => (simp only [gAx, gSx, gZx]; rfl)
      case hQqf9 => exact fun _ _ _ h => h
      case hyqf9 => exact Or.inr ⟨by rfl, rfl⟩
      try simp only [Act.put, sAx, sZx, sSx]
      refine wpAnyH_take (i := 10) (oi := ?oiqf10) (v := undef) ?hiqf10 (by kernel_rfl) (by kernel_rfl) (by kernel_rfl) ?hQqf10 ?hyqf10 hHeld ?hqf10
      case hiqf10 => (simp only [gAx, gSx, gZx]; rfl)
      case hQqf10 => exact fun _ _ _ h => h
      case hyqf10 => exact Or.inr ⟨by rfl, rfl⟩
      try simp only [Act.put, sAx, sZx, sSx]
      refine wpAnyH_take (i := 11) (oi := ?oiqf11) (v := ?vqf11) ?hiqf11 (by kernel_rfl) (by kernel_rfl) (by kernel_rfl) ?hQqf11 ?hyqf11 hHeld ?hqf11
      case hiqf11 => (simp only [gAx, gSx, gZx]; rfl)
      case hQqf11 => exact fun _ _ _ h => h
      case hyqf11 => exact Or.inl ⟨by rfl, by intro w_ hSw; (try dsimp only at hSw); first | (go_simp; done) | (go_simp; with_reducible rfl)⟩
      try simp only [Act.put, sAx, sZx, sSx]
      refine wpAnyH_take (i := 12) (oi := ?oiqf12) (v := ?vqf12) ?hiqf12 (by kernel_rfl) (by kernel_rfl) (by kernel_rfl) ?hQqf12 ?hyqf12 hHeld ?hqf12
      case hiqf12 => (simp only [gAx, gSx, gZx]; rfl)
      case hQqf12 => exact fun _ _ _ h => h
      case hyqf12 => exact Or.inl ⟨by rfl, by intro w_ hSw; (try dsimp only at hSw); first | (go_simp; done) | (go_simp; with_reducible rfl)⟩
      try simp only [Act.put, sAx, sZx, sSx]
      refine wpAnyH_take (i := 13) (oi := ?oiqf13) (v := ?vqf13) ?hiqf13 (by kernel_rfl) (by kernel_rfl) (by kernel_rfl) ?hQqf13 ?hyqf13 hHeld ?hqf13
      case hiqf13 => (simp only [gAx, gSx, gZx]; rfl)
      case hQqf13 => exact fun _ _ _ h => h
      case hyqf13 => exact Or.inl ⟨by rfl, by intro w_ hSw; (try dsimp only at hSw); first | (go_simp; done) | (go_simp; with_reducible rfl)⟩
      try simp only [Act.put, sAx, sZx, sSx]
      refine wpAnyH_done (by kernel_rfl) ?_ _
      go_wp2_with (fail)
      go_meet
      case rel => exact ⟨by first | rfl | (congr 1; have h1_ := HJ.out; have h2_ := HL1.out; first | omega | (simp only [i64_w]; unfold wrap64; omega)), by rw [HO2.out], ⟨below_drew (Below.refl _ _)⟩⟩
  case rest =>
    obtain ⟨rfl, rfl, HBC⟩ := hcut
    obtain ⟨wa, rfl⟩ : ∃ wa, wa = wc := ⟨_, rfl⟩
    have Y1 := Aside0.mk ((HBC.out.block _ (lt_of_block Z1.out)).trans Z1.out)
    have Y2 := Aside0.mk ((HBC.out.block _ (lt_of_block Z2.out)).trans Z2.out)
    have Y3 := Aside0.mk ((HBC.out.block _ (lt_of_block Z3.out)).trans Z3.out)
    have HBW := Aside0.mk (below_step HB0.out HBC.out)
    have HWA := Aside0.mk (show w.heap.size + 3 ≤ wa.heap.size by have h1_ := HSZ.out; have h2_ := HBC.out.size; omega)
    have HBA := Aside0.mk (show B ≤ wa.heap.size by have h1_ := HWA.out; have h2_ := HB.out; omega)
    have HGW := Aside0.mk (show wa.heap[gx]? = w.heap[gx]? from HBW.out.block _ HGX.out)
    have HGA := Aside0.mk (show gx < wa.heap.size by have h1_ := HGX.out; have h2_ := HWA.out; omega)
    have HBB := Aside0.mk (below_lower (Below.refl _ _) HBW.out HB.out)
    obtain ⟨q10, q11, q12⟩ := cellsA Y1.out
    obtain ⟨q20, q21, q22⟩ := cellsA Y2.out
    obtain ⟨q30, q31, q32⟩ := cellsA Y3.out
    have RW0 := Aside0.mk (Kd.R_mono (ok' := (fun k_ => (k_ < s1) ∧ B ≤ k_ ∧ k_ < w.heap.size ∧ k_ ≠ gx)) (Kd.R_below HR0.out HBW.out) (fun k_ hk => ⟨hk.1.1, hk.2.1, hk.2.2.1, hk.1.2⟩))
    have HN0 := Aside0.mk (Kd.R_reads' RW0.out)
    have RW1 := Aside0.mk (Kd.R_mono (ok' := (fun k_ => (s1 ≤ k_ ∧ k_ < s2) ∧ B ≤ k_ ∧ k_ < w.heap.size ∧ k_ ≠ gx)) (Kd.R_below HR1.out HBW.out) (fun k_ hk => ⟨hk.1.1, hk.2.1, hk.2.2.1, hk.1.2⟩))
    have HN1 := Aside0.mk (Kd.R_reads' RW1.out)
    have RW2 := Aside0.mk (Kd.R_mono (ok' := (fun k_ => (s2 ≤ k_) ∧ B ≤ k_ ∧ k_ < w.heap.size ∧ k_ ≠ gx)) (Kd.R_below HR2.out HBW.out) (fun k_ hk => ⟨hk.1.1, hk.2.1, hk.2.2.1, hk.1.2⟩))
    have HN2 := Aside0.mk (Kd.R_reads' RW2.out)
    clear Z1 Z2 Z3
    go_upto_block 0 with fail
    go_cut [7] from 22 to 110 (fun v7 wx => ∃ (X0 : Option Addr) (n0 d0 : Nat) (X1 : Option Addr) (n1 d1 : Nat) (X2 : Option Addr) (n2 d2 : Nat) (l0 l1 l2 : List Int) (o2 : Bool), v7 = .bool o2 ∧ Aside0 (r = okR o2 (l0, l1, l2)) ∧ Aside0 (wx.heap[w.heap.size]? = some (.cells #[.slice X0 n0 d0, .slice X1 n1 d1, .slice X2 n2 d2] 62 (0, 0))) ∧ Aside0 (wx.heap[w.heap.size + 1 + 1]? = some (.cells #[.slice none 0 0, .slice none 0 0, .slice none 0 0] 62 (0, 0))) ∧ Aside0 (RowA B w.heap.size gx wx X0 n0 d0 l0) ∧ Aside0 (RowA B w.heap.size gx wx X1 n1 d1 l1) ∧ Aside0 (RowA B w.heap.size gx wx X2 n2 d2 l2) ∧ Aside0 (Below B w wx) ∧ Aside0 (wx.heap[gx]? = w.heap[gx]?))
    case first =>
      have h := H.out
      clear H
      by_cases e1 : kd = 1
      · subst e1
        simp only [mkF, ↓reduceIte] at h
        have hr := Option.some.inj h
        clear h
        have hl0 := HL0.out
        by_cases z0 : L0.length = 0
        · rw [if_pos z0] at hr
          have dz : ((L0.length : Int) == 0) = true := beq_iff_eq.mpr (by omega)
          go_wp2_with (first
            | ((with_reducible refine gate_dst (N := 31) rfl ?_); refine load_row_event rfl 62 (.tmp 2) rfl w.heap.size rfl 62 #[.slice A0 L0.length c0, .slice A1 L1.length c1, .slice A2 L2.length c2] _ Y1.out hu rfl hi ?_)
            | ((with_reducible refine gate_store (t := 62) (p := 4) rfl ?_); refine store_row_event rfl rfl 62 (.tmp 4) (.tmp 31) rfl (w.heap.size + 1 + 1) #[.slice A0 L0.length c0, .slice A1 L1.length c1, .slice A2 L2.length c2] rfl rfl 62 _ Y3.out hi rfl (by kernel_rfl) ?_; intro wz hh ho; have HEND := Aside0.mk hh; have hbend := Aside0.mk (ho.below (below_lower (Below.refl _ _) HBW.out HB.out) (by have := HB.out; omega)); have hst := Aside0.mk (show wz.heap.size = wa.heap.size ∧ (∀ k_, k_ ≠ w.heap.size + 1 + 1 → wz.heap[k_]? = wa.heap[k_]?) from ⟨ho.size, fun k_ hk => ho.other k_ hk⟩); clear hh ho))
          refine bodyPost_ret (v := .tuple #[.agg #[.slice A0 L0.length c0, .slice A1 L1.length c1, .slice A2 L2.length c2], .bool false]) ?_ rfl ?_
          · exact results_list (rs := [.cell 4 62, .tmp 5]) rfl (by simp) (.cell (w.heap.size + 1 + 1) 62 #[.slice A0 L0.length c0, .slice A1 L1.length c1, .slice A2 L2.length c2] (0, 0) _ rfl HEND.out hu rfl (by kernel_rfl) (.tmp .nil))
          · subst hr; refine ⟨_, _, _, _, _, _, _, _, _, rfl, ?_, ⟨hbend.out, (hst.out.2 _ (by have h1_ := HGX.out; omega)).trans HGW.out⟩⟩; intro x hx; cases hx
        · rw [if_neg z0] at hr
          obtain ⟨g, cp, ev, _, _, _⟩ := Kd.R_form RW0.out (by omega)
          cases ev
          have d0 : ((L0.length : Int) == 0) = false := beq_eq_false_iff_ne.mpr (by omega)
          have HCX := Aside0.mk HN0.out.2.2
          obtain ⟨A', lx, cx, hlx, hcx, hcut, hrd⟩ := drop1_of 22 3 Try.underlying22 hi0 hsz0 (some ⟨g, 0, none⟩) c0 L0 (by omega) HN0.out.2.1
          have HCUT := Aside0.mk hcut
          have HRD := Aside0.mk hrd
          have HLX := Aside0.mk hlx
          have HCX2 := Aside0.mk hcx
          clear hcut hrd hlx hcx
          go_upto_region 7 with (fail)
          refine wp_region_X 12 (S := (fun W => W.heap[w.heap.size]? = some (.cells #[.slice (some ⟨g, 0, none⟩) L0.length c0, .slice A1 L1.length c1, .slice A2 L2.length c2] 62) ∧ Kd.C (Kd.int .i64) W (some ⟨g, 0, none⟩) L0.length L0)) (by kernel_rfl) ⟨Y1.out, HCX.out⟩ (fun hHeld => ?_)
          refine wpAnyX_takeP (i := 0) (oi := ?oip0) (v := ?vp0) ?hip0 (by kernel_rfl) (by kernel_rfl) (by kernel_rfl) rfl ?hQp0 ?hyp0 (fun _ => hHeld) ?hp0
          case hip0 => (simp only [gAx, gSx, gZx]; rfl)
          case hQp0 => exact fun _ _ _ h => h
          case hyp0 => exact Or.inl ⟨by rfl, by intro w_ hSw; first | (go_simp; done) | (go_simp; with_reducible rfl)⟩
          try simp only [Act.put, sAx, sZx, sSx]
          refine wpAnyX_takeS (i := 1) (oi := ?oip1) (v := (.slice A1 L1.length c1)) ?hip1 (by kernel_rfl) (by kernel_rfl) (by kernel_rfl) rfl (by kernel_rfl) (by rfl) ?hQp1 ?hyp1 hHeld ?hp1
          case hip1 => (simp only [gAx, gSx, gZx]; rfl)
          case hQp1 => exact fun _ _ _ h => h
          case hyp1 => exact Or.inl ⟨by rfl, by intro w_ hSw; obtain ⟨h0_, h1_, h2_⟩ := cellsA hSw.1; first | (go_simp; done) | (go_simp; with_reducible rfl)⟩
          try simp only [Act.put, sAx, sZx, sSx]
          refine wpAnyX_takeP (i := 2) (oi := ?oip2) (v := ?vp2) ?hip2 (by kernel_rfl) (by kernel_rfl) (by kernel_rfl) rfl ?hQp2 ?hyp2 (fun _ => hHeld) ?hp2
          case hip2 => (simp only [gAx, gSx, gZx]; rfl)
          case hQp2 => exact fun _ _ _ h => h
          case hyp2 => exact Or.inl ⟨by rfl, by intro w_ hSw; first | (go_simp; done) | (go_simp; with_reducible rfl)⟩
          try simp only [Act.put, sAx, sZx, sSx]
          refine wpAnyX_takeS (i := 3) (oi := ?oip3) (v := (.slice (some ⟨g, 0, none⟩) L0.length c0)) ?hip3 (by kernel_rfl) (by kernel_rfl) (by kernel_rfl) rfl (by kernel_rfl) (by rfl) ?hQp3 ?hyp3 hHeld ?hp3
          case hip3 => (simp only [gAx, gSx, gZx]; rfl)
          case hQp3 => exact fun _ _ _ h => h
          case hyp3 => exact Or.inl ⟨by rfl, by intro w_ hSw; obtain ⟨h0_, h1_, h2_⟩ := cellsA hSw.1; first | (go_simp; done) | (go_simp; with_reducible rfl)⟩
          try simp only [Act.put, sAx, sZx, sSx]
          refine wpAnyX_takeP (i := 4) (oi := ?oip4) (v := (.pointer (some ⟨g, 0, none⟩))) ?hip4 (by kernel_rfl) (by kernel_rfl) (by kernel_rfl) rfl ?hQp4 ?hyp4 (fun _ => hHeld) ?hp4
          case hip4 => (simp only [gAx, gSx, gZx]; rfl)
          case hQp4 => exact fun _ _ _ h => h
          case hyp4 => exact Or.inl ⟨by rfl, by intro w_ hSw; first | (go_simp; done) | (go_simp; with_reducible rfl)⟩
          try simp only [Act.put, sAx, sZx, sSx]
          refine wpAnyX_takeS (i := 5) (oi := ?oip5) (v := (.int .i64 (rd L0 0))) ?hip5 (by kernel_rfl) (by kernel_rfl) (by kernel_rfl) rfl (by kernel_rfl) (by rfl) ?hQp5 ?hyp5 hHeld ?hp5
          case hip5 => (simp only [gAx, gSx, gZx]; rfl)
          case hQp5 => exact fun _ _ _ h => h
          case hyp5 => exact Or.inl ⟨by rfl, by intro w_ hSw; obtain ⟨ad_, e_, hx_⟩ := Kd.at_int hSw.2 0 (by omega) (by omega); cases e_; rw [show (0 : Int).toNat = 0 from rfl, show (⟨g, 0, none⟩ : Addr).add 0 = ⟨g, 0, none⟩ from rfl] at hx_; first | (go_simp; done) | (go_simp; with_reducible rfl)⟩
          try simp only [Act.put, sAx, sZx, sSx]
          refine wpAnyX_takeP (i := 8) (oi := ?oip8) (v := ?vp8) ?hip8 (by kernel_rfl) (by kernel_rfl) (by kernel_rfl) rfl ?hQp8 ?hyp8 (fun _ => hHeld) ?hp8
          case hip8 => (simp only [gAx, gSx, gZx]; rfl)
          case hQp8 => exact fun _ _ _ h => h
          case hyp8 => exact Or.inl ⟨by rfl, by intro w_ hSw; first | (go_simp; done) | (go_simp; with_reducible rfl)⟩
          try simp only [Act.put, sAx, sZx, sSx]
          refine wpAnyX_takeS (i := 9) (oi := ?oip9) (v := (.slice (some ⟨g, 0, none⟩) L0.length c0)) ?hip9 (by kernel_rfl) (by kernel_rfl) (by kernel_rfl) rfl (by kernel_rfl) (by rfl) ?hQp9 ?hyp9 hHeld ?hp9
          case hip9 => (simp only [gAx, gSx, gZx]; rfl)
          case hQp9 => exact fun _ _ _ h => h
          case hyp9 => exact Or.inl ⟨by rfl, by intro w_ hSw; obtain ⟨h0_, h1_, h2_⟩ := cellsA hSw.1; first | (go_simp; done) | (go_simp; with_reducible rfl)⟩
          try simp only [Act.put, sAx, sZx, sSx]
          refine wpAnyX_takeP (i := 10) (oi := ?oip10) (v := (.slice A' lx.length cx)) ?hip10 (by kernel_rfl) (by kernel_rfl) (by kernel_rfl) rfl ?hQp10 ?hyp10 (fun _ => hHeld) ?hp10
          case hip10 => (simp only [gAx, gSx, gZx]; rfl)
          case hQp10 => exact fun _ _ _ h => h
          case hyp10 => exact Or.inl ⟨by rfl, by intro w_ hSw; have hcut := HCUT.out; first | (go_simp; done) | (go_simp; with_reducible rfl)⟩
          try simp only [Act.put, sAx, sZx, sSx]
          refine wpAnyX_oneS (i := 6) (o := ?ocp6) (by kernel_rfl) ?hcp6 (fun K hK => ?hkp6)
          case hcp6 => (simp only [gAx, gSx, gZx]; rfl)
          refine Kd.R_lit_step (Kd.int .i64) (w0 := wa) wa.heap.size 3 (by rfl) (N := 38) rfl (xs := [rd L0 0]) (inner := [.int .i64 (rd L0 0)]) (ok := fun _ => True) (okp := fun _ => True) ?hrp (Kd.reps_scalar _) (fun _ hk => hk) trivial (below_drew (Below.refl _ _)) (Nat.le_refl _) (by simp) ?_
          case hrp => first | (go_simp; done) | (go_simp; rfl)
          intro v7 w7 ho hb hg_ hnew_
          obtain ⟨ll, hll⟩ : ∃ ll, ll = [rd L0 0] := ⟨_, rfl⟩
          rw [← hll] at ho
          have HLL := Aside0.mk hll
          obtain ⟨A7, c7, e7⟩ := Kd.R_slice ho
          subst e7
          have HV7 := Aside0.mk ho
          have HB7 := Aside0.mk hb
          clear ho hb hg_ hnew_ hll
          refine hK.out _ _ ⟨(HB7.out.block _ (lt_of_block Y1.out)).trans Y1.out, Kd.C_below HCX.out HB7.out⟩ (fun hHeld => ?_)
          clear hK K
          try simp only [Act.put, sAx, sZx, sSx]
          refine wpAnyX_oneS (i := 7) (o := ?ocp7) (by kernel_rfl) ?hcp7 (fun K hK => ?hkp7)
          case hcp7 => (simp only [gAx, gSx, gZx]; rfl)
          refine Kd.R_append_rows_step (Kd.int .i64) (w0 := wa) B (by rfl) (.tmp 33) (.tmp 38) 22 3 (.int .i64 0) 8 rfl Try.underlying22 info3 rfl (by decide) (by omega) (.slice A1 L1.length c1) L1 ll _ _ _ (fun k_ => (k_ < w.heap.size ∧ k_ ≠ gx) ∨ w.heap.size + 3 ≤ k_) (fun _ => False) rfl rfl ?aO ?aR (fun _ _ h => h) (fun _ h => h.elim) ?aF ?aB ?aS ?aL ?_
          case aO => exact Kd.R_mono (Kd.R_below RW1.out HB7.out) (fun k_ hk => Or.inl hk.2.2)
          case aR => exact (Kd.R_reads' HV7.out).2.2
          case aF => exact fun k_ hk => Or.inr (by have h1_ := HB7.out.size; have h2_ := HWA.out; omega)
          case aB => exact below_lower (Below.refl _ _) HB7.out HBA.out
          case aS => have h1_ := HB7.out.size; have h2_ := HBA.out; omega
          case aL => have h1_ := HLL.out; subst h1_; simp; have := HL1.out; omega
          intro v8 w8 ho hb hg hat
          obtain ⟨ly, hly⟩ : ∃ ly, ly = L1 ++ ll := ⟨_, rfl⟩
          rw [← hly] at ho
          have HLY := Aside0.mk hly
          obtain ⟨A8, c8, e8⟩ := Kd.R_slice ho
          subst e8
          have HV8 := Aside0.mk ho
          have HB8 := Aside0.mk hb
          have HG8 := Aside0.mk hg
          clear ho hb hg hat hly
          have RX0 := Aside0.mk (RowA.of (m := w.heap.size) (row_apart (Kd.R_below RW1.out HB7.out) (Kd.R_below RW0.out HB7.out) HG8.out (fun k_ h1_ h2_ => by have := HS12.out; omega)) (Nat.le_refl _) (fun k_ hk _ => Or.inl hk.2.2))
          have RX2 := Aside0.mk (RowA.of (m := w.heap.size) (row_apart (Kd.R_below RW1.out HB7.out) (Kd.R_below RW2.out HB7.out) HG8.out (fun k_ h1_ h2_ => by have := HS12.out; omega)) (Nat.le_refl _) (fun k_ hk _ => Or.inl hk.2.2))
          have YP := Aside0.mk ((HG8.out.block _ (by have h1_ := HB7.out.size; have h2_ := HWA.out; omega) (fun h_ => absurd (RW1.out.1 _ h_.symm).2.2 (by omega))).trans ((HB7.out.block _ (lt_of_block Y1.out)).trans Y1.out))
          have YP3 := Aside0.mk ((HG8.out.block _ (by have h1_ := HB7.out.size; have h2_ := HWA.out; omega) (fun h_ => absurd (RW1.out.1 _ h_.symm).2.2 (by omega))).trans ((HB7.out.block _ (lt_of_block Y3.out)).trans Y3.out))
          have YG := Aside0.mk ((HG8.out.block gx (by have h1_ := HB7.out.size; have h2_ := HGA.out; omega) (fun h_ => absurd (RW1.out.1 _ h_.symm).2.2 (by omega))).trans ((HB7.out.block gx HGA.out).trans HGW.out))
          refine hK.out _ _ ⟨YP.out, RX0.out.2.2 _ (StaysA.refl _ _ _ _)⟩ (fun hHeld => ?_)
          clear hK K
          try simp only [Act.put, sAx, sZx, sSx]
          refine wpAnyX_takeP (i := 11) (oi := ?oip11) (v := ?vp11) ?hip11 (by kernel_rfl) (by kernel_rfl) (by kernel_rfl) rfl ?hQp11 ?hyp11 (fun _ => hHeld) ?hp11
          case hip11 => (simp only [gAx, gSx, gZx]; rfl)
          case hQp11 => exact fun _ _ _ h => h
          case hyp11 => exact Or.inl ⟨by rfl, by intro w_ hSw; first | (go_simp; done) | (go_simp; with_reducible rfl)⟩
          try simp only [Act.put, sAx, sZx, sSx]
          refine wpAnyX_oneF (i := 12) (o := ?ocp12) (by kernel_rfl) ?hcp12 (by rfl) (fun K hK => ?hkp12)
          case hcp12 => (simp only [gAx, gSx, gZx]; rfl)
          obtain ⟨c0_, c1_, c2_⟩ := cellsA YP.out
          have f_ := frz YP.out 1
          go_simp
          refine hK.out _ _ ?_
          clear hK K c0_ c1_ c2_ f_
          try simp only [Act.put, sAx, sZx, sSx]
          have YP1 := Aside0.mk (blk_put YP.out 1 (.slice A8 ly.length c8) (cs' := #[.slice (some ⟨g, 0, none⟩) L0.length c0, .slice A8 ly.length c8, .slice A2 L2.length c2]) rfl)
          refine wpAnyX_takeP (i := 13) (oi := ?oip13) (v := ?vp13) ?hip13 (by kernel_rfl) (by kernel_rfl) (by kernel_rfl) rfl ?hQp13 ?hyp13 (fun h_ => nomatch (show true = false from h_)) ?hp13
          case hip13 => (simp only [gAx, gSx, gZx]; rfl)
          case hQp13 => exact fun _ _ _ h => h
          case hyp13 => exact Or.inl ⟨by rfl, by intro w_ hSw; first | (go_simp; done) | (go_simp; with_reducible rfl)⟩
          try simp only [Act.put, sAx, sZx, sSx]
          refine wpAnyX_oneF (i := 14) (o := ?ocp14) (by kernel_rfl) ?hcp14 (by rfl) (fun K hK => ?hkp14)
          case hcp14 => (simp only [gAx, gSx, gZx]; rfl)
          obtain ⟨c0_, c1_, c2_⟩ := cellsA YP1.out
          have f_ := frz YP1.out 0
          go_simp
          refine hK.out _ _ ?_
          clear hK K c0_ c1_ c2_ f_
          try simp only [Act.put, sAx, sZx, sSx]
          have YP2 := Aside0.mk (blk_put YP1.out 0 (.slice A' lx.length cx) (cs' := #[.slice A' lx.length cx, .slice A8 ly.length c8, .slice A2 L2.length c2]) rfl)
          refine wpAnyX_done (by kernel_rfl) ?_ _
          go_wp2_with (fail)
          go_meet
          case rel =>
            refine ⟨_, _, _, _, _, _, _, _, _, lx, ly, L2, ob, rfl, ⟨?_⟩, YP2, ⟨?_⟩, ⟨RowA.later (RowA.map RX0.out rfl HCX2.out HRD.out) (by rw [World.size_setCell, World.size_setCell]; exact Nat.le_refl _) (fun k_ _ hk2 => (Below.heap_setCell _ _ _ _ (show k_ ≠ w.heap.size by omega)).trans (Below.heap_setCell _ _ _ _ (show k_ ≠ w.heap.size by omega)))⟩, ⟨RowA.later (RowA.of HV8.out (Nat.le_refl _) (fun k_ hk _ => hk)) (by rw [World.size_setCell, World.size_setCell]; exact Nat.le_refl _) (fun k_ _ hk2 => (Below.heap_setCell _ _ _ _ (show k_ ≠ w.heap.size by omega)).trans (Below.heap_setCell _ _ _ _ (show k_ ≠ w.heap.size by omega)))⟩, ⟨RowA.later (RX2.out) (by rw [World.size_setCell, World.size_setCell]; exact Nat.le_refl _) (fun k_ _ hk2 => (Below.heap_setCell _ _ _ _ (show k_ ≠ w.heap.size by omega)).trans (Below.heap_setCell _ _ _ _ (show k_ ≠ w.heap.size by omega)))⟩, ⟨?_⟩, ⟨?_⟩⟩
            · rw [← hr, HLY.out, HLL.out, HLX.out]; exact zf_ob _ _ _ HOB.out _
            · exact (Below.heap_setCell _ _ _ _ (show w.heap.size + 1 + 1 ≠ w.heap.size by omega)).trans ((Below.heap_setCell _ _ _ _ (show w.heap.size + 1 + 1 ≠ w.heap.size by omega)).trans YP3.out)
            · exact Below.setCell (Below.setCell (below_lower HBB.out HB8.out (Nat.le_refl _)) HB.out _) HB.out _
            · exact (Below.heap_setCell _ _ _ _ (show gx ≠ w.heap.size by have h1_ := HGX.out; omega)).trans ((Below.heap_setCell _ _ _ _ (show gx ≠ w.heap.size by have h1_ := HGX.out; omega)).trans YG.out)
      by_cases e2 : kd = 2
      · subst e2
        simp only [mkF, show ¬ (2 : Int) = 1 from by decide, ↓reduceIte] at h
        have hr := Option.some.inj h
        clear h
        have hl1 := HL1.out
        have hji := HJ.out
        by_cases z0 : L1.length = 0
        · rw [if_pos z0] at hr
          have dz : decide (ji < 0) = true := decide_eq_true (by omega)
          have dj : ji < 0 := by omega
          clear hji
          go_wp2_with (first
            | ((with_reducible refine gate_dst (N := 49) rfl ?_); refine load_row_event rfl 62 (.tmp 2) rfl w.heap.size rfl 62 #[.slice A0 L0.length c0, .slice A1 L1.length c1, .slice A2 L2.length c2] _ Y1.out hu rfl hi ?_)
            | ((with_reducible refine gate_store (t := 62) (p := 4) rfl ?_); refine store_row_event rfl rfl 62 (.tmp 4) (.tmp 49) rfl (w.heap.size + 1 + 1) #[.slice A0 L0.length c0, .slice A1 L1.length c1, .slice A2 L2.length c2] rfl rfl 62 _ Y3.out hi rfl (by kernel_rfl) ?_; intro wz hh ho; have HEND := Aside0.mk hh; have hbend := Aside0.mk (ho.below (below_lower (Below.refl _ _) HBW.out HB.out) (by have := HB.out; omega)); have hst := Aside0.mk (show wz.heap.size = wa.heap.size ∧ (∀ k_, k_ ≠ w.heap.size + 1 + 1 → wz.heap[k_]? = wa.heap[k_]?) from ⟨ho.size, fun k_ hk => ho.other k_ hk⟩); clear hh ho))
          refine bodyPost_ret (v := .tuple #[.agg #[.slice A0 L0.length c0, .slice A1 L1.length c1, .slice A2 L2.length c2], .bool false]) ?_ rfl ?_
          · exact results_list (rs := [.cell 4 62, .tmp 5]) rfl (by simp) (.cell (w.heap.size + 1 + 1) 62 #[.slice A0 L0.length c0, .slice A1 L1.length c1, .slice A2 L2.length c2] (0, 0) _ rfl HEND.out hu rfl (by kernel_rfl) (.tmp .nil))
          · subst hr; refine ⟨_, _, _, _, _, _, _, _, _, rfl, ?_, ⟨hbend.out, (hst.out.2 _ (by have h1_ := HGX.out; omega)).trans HGW.out⟩⟩; intro x hx; cases hx
        · rw [if_neg z0] at hr
          have j0 : 0 ≤ ji := by omega
          have j1 : ji < (L1.length : Int) := by omega
          have hjn := Aside0.mk (show ji.toNat = L1.length - 1 by omega)
          have dj : decide (ji < 0) = false := decide_eq_false (by omega)
          obtain ⟨ad, ea, hx0⟩ := Kd.at_int HN1.out.2.2 ji j0 j1
          cases ea
          have HCX := Aside0.mk HN1.out.2.2
          obtain ⟨lx, hlx, hcx, hcut, hrd⟩ := takeJ_of 22 3 Try.underlying22 hi0 hsz0 (some ad) c1 L1 ji j0 (by omega) HN1.out.2.1
          have HCUT := Aside0.mk hcut
          have HRD := Aside0.mk hrd
          have HLX := Aside0.mk hlx
          have HCX2 := Aside0.mk hcx
          clear hcut hrd hlx hcx hji hx0
          go_upto_region 11 with (fail)
          refine wp_region_X 14 (S := (fun W => W.heap[w.heap.size]? = some (.cells #[.slice A0 L0.length c0, .slice (some ad) L1.length c1, .slice A2 L2.length c2] 62) ∧ Kd.C (Kd.int .i64) W (some ad) L1.length L1)) (by kernel_rfl) ⟨Y1.out, HCX.out⟩ (fun hHeld => ?_)
          refine wpAnyX_takeP (i := 0) (oi := ?oio0) (v := ?vo0) ?hio0 (by kernel_rfl) (by kernel_rfl) (by kernel_rfl) rfl ?hQo0 ?hyo0 (fun _ => hHeld) ?ho0
          case hio0 => (simp only [gAx, gSx, gZx]; rfl)
          case hQo0 => exact fun _ _ _ h => h
          case hyo0 => exact Or.inl ⟨by rfl, by intro w_ hSw; first | (go_simp; done) | (go_simp; with_reducible rfl)⟩
          try simp only [Act.put, sAx, sZx, sSx]
          refine wpAnyX_takeS (i := 1) (oi := ?oio1) (v := (.slice A2 L2.length c2)) ?hio1 (by kernel_rfl) (by kernel_rfl) (by kernel_rfl) rfl (by kernel_rfl) (by rfl) ?hQo1 ?hyo1 hHeld ?ho1
          case hio1 => (simp only [gAx, gSx, gZx]; rfl)
          case hQo1 => exact fun _ _ _ h => h
          case hyo1 => exact Or.inl ⟨by rfl, by intro w_ hSw; obtain ⟨h0_, h1_, h2_⟩ := cellsA hSw.1; first | (go_simp; done) | (go_simp; with_reducible rfl)⟩
          try simp only [Act.put, sAx, sZx, sSx]
          refine wpAnyX_takeP (i := 2) (oi := ?oio2) (v := ?vo2) ?hio2 (by kernel_rfl) (by kernel_rfl) (by kernel_rfl) rfl ?hQo2 ?hyo2 (fun _ => hHeld) ?ho2
          case hio2 => (simp only [gAx, gSx, gZx]; rfl)
          case hQo2 => exact fun _ _ _ h => h
          case hyo2 => exact Or.inl ⟨by rfl, by intro w_ hSw; first | (go_simp; done) | (go_simp; with_reducible rfl)⟩
          try simp only [Act.put, sAx, sZx, sSx]
          refine wpAnyX_takeS (i := 3) (oi := ?oio3) (v := (.slice (some ad) L1.length c1)) ?hio3 (by kernel_rfl) (by kernel_rfl) (by kernel_rfl) rfl (by kernel_rfl) (by rfl) ?hQo3 ?hyo3 hHeld ?ho3
          case hio3 => (simp only [gAx, gSx, gZx]; rfl)
          case hQo3 => exact fun _ _ _ h => h
          case hyo3 => exact Or.inl ⟨by rfl, by intro w_ hSw; obtain ⟨h0_, h1_, h2_⟩ := cellsA hSw.1; first | (go_simp; done) | (go_simp; with_reducible rfl)⟩
          try simp only [Act.put, sAx, sZx, sSx]
          refine wpAnyX_takeP (i := 4) (oi := ?oio4) (v := ?vo4) ?hio4 (by kernel_rfl) (by kernel_rfl) (by kernel_rfl) rfl ?hQo4 ?hyo4 (fun _ => hHeld) ?ho4
          case hio4 => (simp only [gAx, gSx, gZx]; rfl)
          case hQo4 => exact fun _ _ _ h => h
          case hyo4 => exact Or.inl ⟨by rfl, by intro w_ hSw; first | (go_simp; done) | (go_simp; with_reducible rfl)⟩
          try simp only [Act.put, sAx, sZx, sSx]
          refine wpAnyX_takeP (i := 5) (oi := ?oio5) (v := ?vo5) ?hio5 (by kernel_rfl) (by kernel_rfl) (by kernel_rfl) rfl ?hQo5 ?hyo5 (fun _ => hHeld) ?ho5
          case hio5 => (simp only [gAx, gSx, gZx]; rfl)
          case hQo5 => exact fun _ _ _ h => h
          case hyo5 => exact Or.inl ⟨by rfl, by intro w_ hSw; first | (go_simp; done) | (go_simp; with_reducible rfl)⟩
          try simp only [Act.put, sAx, sZx, sSx]
          refine wpAnyX_takeS (i := 6) (oi := ?oio6) (v := (.int .i64 (rd L1 ji))) ?hio6 (by kernel_rfl) (by kernel_rfl) (by kernel_rfl) rfl (by kernel_rfl) (by rfl) ?hQo6 ?hyo6 hHeld ?ho6
          case hio6 => (simp only [gAx, gSx, gZx]; rfl)
          case hQo6 => exact fun _ _ _ h => h
          case hyo6 => exact Or.inl ⟨by rfl, by intro w_ hSw; obtain ⟨ad_, e_, hx_⟩ := Kd.at_int hSw.2 ji j0 j1; cases e_; first | (go_simp; done) | (go_simp; with_reducible rfl)⟩
          try simp only [Act.put, sAx, sZx, sSx]
          refine wpAnyX_takeP (i := 9) (oi := ?oio9) (v := ?vo9) ?hio9 (by kernel_rfl) (by kernel_rfl) (by kernel_rfl) rfl ?hQo9 ?hyo9 (fun _ => hHeld) ?ho9
          case hio9 => (simp only [gAx, gSx, gZx]; rfl)
          case hQo9 => exact fun _ _ _ h => h
          case hyo9 => exact Or.inl ⟨by rfl, by intro w_ hSw; first | (go_simp; done) | (go_simp; with_reducible rfl)⟩
          try simp only [Act.put, sAx, sZx, sSx]
          refine wpAnyX_takeS (i := 10) (oi := ?oio10) (v := (.slice (some ad) L1.length c1)) ?hio10 (by kernel_rfl) (by kernel_rfl) (by kernel_rfl) rfl (by kernel_rfl) (by rfl) ?hQo10 ?hyo10 hHeld ?ho10
          case hio10 => (simp only [gAx, gSx, gZx]; rfl)
          case hQo10 => exact fun _ _ _ h => h
          case hyo10 => exact Or.inl ⟨by rfl, by intro w_ hSw; obtain ⟨h0_, h1_, h2_⟩ := cellsA hSw.1; first | (go_simp; done) | (go_simp; with_reducible rfl)⟩
          try simp only [Act.put, sAx, sZx, sSx]
          refine wpAnyX_takeP (i := 11) (oi := ?oio11) (v := ?vo11) ?hio11 (by kernel_rfl) (by kernel_rfl) (by kernel_rfl) rfl ?hQo11 ?hyo11 (fun _ => hHeld) ?ho11
          case hio11 => (simp only [gAx, gSx, gZx]; rfl)
          case hQo11 => exact fun _ _ _ h => h
          case hyo11 => exact Or.inl ⟨by rfl, by intro w_ hSw; first | (go_simp; done) | (go_simp; with_reducible rfl)⟩
          try simp only [Act.put, sAx, sZx, sSx]
          refine wpAnyX_takeP (i := 12) (oi := ?oio12) (v := (.slice (some ad) lx.length c1)) ?hio12 (by kernel_rfl) (by kernel_rfl) (by kernel_rfl) rfl ?hQo12 ?hyo12 (fun _ => hHeld) ?ho12
          case hio12 => (simp only [gAx, gSx, gZx]; rfl)
          case hQo12 => exact fun _ _ _ h => h
          case hyo12 => exact Or.inl ⟨by rfl, by intro w_ hSw; have hcut := HCUT.out; first | (go_simp; done) | (go_simp; with_reducible rfl)⟩
          try simp only [Act.put, sAx, sZx, sSx]
          refine wpAnyX_oneS (i := 7) (o := ?oco7) (by kernel_rfl) ?hco7 (fun K hK => ?hko7)
          case hco7 => (simp only [gAx, gSx, gZx]; rfl)
          refine Kd.R_lit_step (Kd.int .i64) (w0 := wa) wa.heap.size 3 (by rfl) (N := 57) rfl (xs := [rd L1 ji]) (inner := [.int .i64 (rd L1 ji)]) (ok := fun _ => True) (okp := fun _ => True) ?hro (Kd.reps_scalar _) (fun _ hk => hk) trivial (below_drew (Below.refl _ _)) (Nat.le_refl _) (by simp) ?_
          case hro => first | (go_simp; done) | (go_simp; rfl)
          intro v7 w7 ho hb hg_ hnew_
          obtain ⟨ll, hll⟩ : ∃ ll, ll = [rd L1 ji] := ⟨_, rfl⟩
          rw [← hll] at ho
          have HLL := Aside0.mk hll
          obtain ⟨A7, c7, e7⟩ := Kd.R_slice ho
          subst e7
          have HV7 := Aside0.mk ho
          have HB7 := Aside0.mk hb
          clear ho hb hg_ hnew_ hll
          refine hK.out _ _ ⟨(HB7.out.block _ (lt_of_block Y1.out)).trans Y1.out, Kd.C_below HCX.out HB7.out⟩ (fun hHeld => ?_)
          clear hK K
          try simp only [Act.put, sAx, sZx, sSx]
          refine wpAnyX_oneS (i := 8) (o := ?oco8) (by kernel_rfl) ?hco8 (fun K hK => ?hko8)
          case hco8 => (simp only [gAx, gSx, gZx]; rfl)
          refine Kd.R_append_rows_step (Kd.int .i64) (w0 := wa) B (by rfl) (.tmp 51) (.tmp 57) 22 3 (.int .i64 0) 8 rfl Try.underlying22 info3 rfl (by decide) (by omega) (.slice A2 L2.length c2) L2 ll _ _ _ (fun k_ => (k_ < w.heap.size ∧ k_ ≠ gx) ∨ w.heap.size + 3 ≤ k_) (fun _ => False) rfl rfl ?aO ?aR (fun _ _ h => h) (fun _ h => h.elim) ?aF ?aB ?aS ?aL ?_
          case aO => exact Kd.R_mono (Kd.R_below RW2.out HB7.out) (fun k_ hk => Or.inl hk.2.2)
          case aR => exact (Kd.R_reads' HV7.out).2.2
          case aF => exact fun k_ hk => Or.inr (by have h1_ := HB7.out.size; have h2_ := HWA.out; omega)
          case aB => exact below_lower (Below.refl _ _) HB7.out HBA.out
          case aS => have h1_ := HB7.out.size; have h2_ := HBA.out; omega
          case aL => have h1_ := HLL.out; subst h1_; simp; have := HL2.out; omega
          intro v8 w8 ho hb hg hat
          obtain ⟨ly, hly⟩ : ∃ ly, ly = L2 ++ ll := ⟨_, rfl⟩
          rw [← hly] at ho
          have HLY := Aside0.mk hly
          obtain ⟨A8, c8, e8⟩ := Kd.R_slice ho
          subst e8
          have HV8 := Aside0.mk ho
          have HB8 := Aside0.mk hb
          have HG8 := Aside0.mk hg
          clear ho hb hg hat hly
          have RX0 := Aside0.mk (RowA.of (m := w.heap.size) (row_apart (Kd.R_below RW2.out HB7.out) (Kd.R_below RW0.out HB7.out) HG8.out (fun k_ h1_ h2_ => by have := HS12.out; omega)) (Nat.le_refl _) (fun k_ hk _ => Or.inl hk.2.2))
          have RX1 := Aside0.mk (RowA.of (m := w.heap.size) (row_apart (Kd.R_below RW2.out HB7.out) (Kd.R_below RW1.out HB7.out) HG8.out (fun k_ h1_ h2_ => by have := HS12.out; omega)) (Nat.le_refl _) (fun k_ hk _ => Or.inl hk.2.2))
          have YP := Aside0.mk ((HG8.out.block _ (by have h1_ := HB7.out.size; have h2_ := HWA.out; omega) (fun h_ => absurd (RW2.out.1 _ h_.symm).2.2 (by omega))).trans ((HB7.out.block _ (lt_of_block Y1.out)).trans Y1.out))
          have YP3 := Aside0.mk ((HG8.out.block _ (by have h1_ := HB7.out.size; have h2_ := HWA.out; omega) (fun h_ => absurd (RW2.out.1 _ h_.symm).2.2 (by omega))).trans ((HB7.out.block _ (lt_of_block Y3.out)).trans Y3.out))
          have YG := Aside0.mk ((HG8.out.block gx (by have h1_ := HB7.out.size; have h2_ := HGA.out; omega) (fun h_ => absurd (RW2.out.1 _ h_.symm).2.2 (by omega))).trans ((HB7.out.block gx HGA.out).trans HGW.out))
          refine hK.out _ _ ⟨YP.out, RX1.out.2.2 _ (StaysA.refl _ _ _ _)⟩ (fun hHeld => ?_)
          clear hK K
          try simp only [Act.put, sAx, sZx, sSx]
          refine wpAnyX_takeP (i := 13) (oi := ?oio13) (v := ?vo13) ?hio13 (by kernel_rfl) (by kernel_rfl) (by kernel_rfl) rfl ?hQo13 ?hyo13 (fun _ => hHeld) ?ho13
          case hio13 => (simp only [gAx, gSx, gZx]; rfl)
          case hQo13 => exact fun _ _ _ h => h
          case hyo13 => exact Or.inl ⟨by rfl, by intro w_ hSw; first | (go_simp; done) | (go_simp; with_reducible rfl)⟩
          try simp only [Act.put, sAx, sZx, sSx]
          refine wpAnyX_oneF (i := 14) (o := ?oco14) (by kernel_rfl) ?hco14 (by rfl) (fun K hK => ?hko14)
          case hco14 => (simp only [gAx, gSx, gZx]; rfl)
          obtain ⟨c0_, c1_, c2_⟩ := cellsA YP.out
          have f_ := frz YP.out 2
          go_simp
          refine hK.out _ _ ?_
          clear hK K c0_ c1_ c2_ f_
          try simp only [Act.put, sAx, sZx, sSx]
          have YP1 := Aside0.mk (blk_put YP.out 2 (.slice A8 ly.length c8) (cs' := #[.slice A0 L0.length c0, .slice (some ad) L1.length c1, .slice A8 ly.length c8]) rfl)
          refine wpAnyX_takeP (i := 15) (oi := ?oio15) (v := ?vo15) ?hio15 (by kernel_rfl) (by kernel_rfl) (by kernel_rfl) rfl ?hQo15 ?hyo15 (fun h_ => nomatch (show true = false from h_)) ?ho15
          case hio15 => (simp only [gAx, gSx, gZx]; rfl)
          case hQo15 => exact fun _ _ _ h => h
          case hyo15 => exact Or.inl ⟨by rfl, by intro w_ hSw; first | (go_simp; done) | (go_simp; with_reducible rfl)⟩
          try simp only [Act.put, sAx, sZx, sSx]
          refine wpAnyX_oneF (i := 16) (o := ?oco16) (by kernel_rfl) ?hco16 (by rfl) (fun K hK => ?hko16)
          case hco16 => (simp only [gAx, gSx, gZx]; rfl)
          obtain ⟨c0_, c1_, c2_⟩ := cellsA YP1.out
          have f_ := frz YP1.out 1
          go_simp
          refine hK.out _ _ ?_
          clear hK K c0_ c1_ c2_ f_
          try simp only [Act.put, sAx, sZx, sSx]
          have YP2 := Aside0.mk (blk_put YP1.out 1 (.slice (some ad) lx.length c1) (cs' := #[.slice A0 L0.length c0, .slice (some ad) lx.length c1, .slice A8 ly.length c8]) rfl)
          refine wpAnyX_done (by kernel_rfl) ?_ _
          go_wp2_with (fail)
          go_meet
          case rel =>
            refine ⟨_, _, _, _, _, _, _, _, _, L0, lx, ly, ob, rfl, ⟨?_⟩, YP2, ⟨?_⟩, ⟨RowA.later (RX0.out) (by rw [World.size_setCell, World.size_setCell]; exact Nat.le_refl _) (fun k_ _ hk2 => (Below.heap_setCell _ _ _ _ (show k_ ≠ w.heap.size by omega)).trans (Below.heap_setCell _ _ _ _ (show k_ ≠ w.heap.size by omega)))⟩, ⟨RowA.later (RowA.map RX1.out rfl HCX2.out HRD.out) (by rw [World.size_setCell, World.size_setCell]; exact Nat.le_refl _) (fun k_ _ hk2 => (Below.heap_setCell _ _ _ _ (show k_ ≠ w.heap.size by omega)).trans (Below.heap_setCell _ _ _ _ (show k_ ≠ w.heap.size by omega)))⟩, ⟨RowA.later (RowA.of HV8.out (Nat.le_refl _) (fun k_ hk _ => hk)) (by rw [World.size_setCell, World.size_setCell]; exact Nat.le_refl _) (fun k_ _ hk2 => (Below.heap_setCell _ _ _ _ (show k_ ≠ w.heap.size by omega)).trans (Below.heap_setCell _ _ _ _ (show k_ ≠ w.heap.size by omega)))⟩, ⟨?_⟩, ⟨?_⟩⟩
            · rw [← hr, HLY.out, HLL.out, HLX.out, hjn.out, ← HJ.out]; exact zf_ob _ _ _ HOB.out _
            · exact (Below.heap_setCell _ _ _ _ (show w.heap.size + 1 + 1 ≠ w.heap.size by omega)).trans ((Below.heap_setCell _ _ _ _ (show w.heap.size + 1 + 1 ≠ w.heap.size by omega)).trans YP3.out)
            · exact Below.setCell (Below.setCell (below_lower HBB.out HB8.out (Nat.le_refl _)) HB.out _) HB.out _
            · exact (Below.heap_setCell _ _ _ _ (show gx ≠ w.heap.size by have h1_ := HGX.out; omega)).trans ((Below.heap_setCell _ _ _ _ (show gx ≠ w.heap.size by have h1_ := HGX.out; omega)).trans YG.out)
      by_cases e3 : kd = 3
      · subst e3
        simp only [mkF, show ¬ (3 : Int) = 1 from by decide, show ¬ (3 : Int) = 2 from by decide, ↓reduceIte] at h
        have hr := Option.some.inj h
        clear h
        have hl1 := HL1.out
        have hl0 := HL0.out
        have hji := HJ.out
        by_cases z0 : L1.length = 0
        · rw [if_pos z0] at hr
          have dz : decide (ji < 0) = true := decide_eq_true (by omega)
          have dj : ji < 0 := by omega
          clear hji
          go_wp2_with (first
            | ((with_reducible refine gate_dst (N := 69) rfl ?_); refine load_row_event rfl 62 (.tmp 2) rfl w.heap.size rfl 62 #[.slice A0 L0.length c0, .slice A1 L1.length c1, .slice A2 L2.length c2] _ Y1.out hu rfl hi ?_)
            | ((with_reducible refine gate_store (t := 62) (p := 4) rfl ?_); refine store_row_event rfl rfl 62 (.tmp 4) (.tmp 69) rfl (w.heap.size + 1 + 1) #[.slice A0 L0.length c0, .slice A1 L1.length c1, .slice A2 L2.length c2] rfl rfl 62 _ Y3.out hi rfl (by kernel_rfl) ?_; intro wz hh ho; have HEND := Aside0.mk hh; have hbend := Aside0.mk (ho.below (below_lower (Below.refl _ _) HBW.out HB.out) (by have := HB.out; omega)); have hst := Aside0.mk (show wz.heap.size = wa.heap.size ∧ (∀ k_, k_ ≠ w.heap.size + 1 + 1 → wz.heap[k_]? = wa.heap[k_]?) from ⟨ho.size, fun k_ hk => ho.other k_ hk⟩); clear hh ho))
          refine bodyPost_ret (v := .tuple #[.agg #[.slice A0 L0.length c0, .slice A1 L1.length c1, .slice A2 L2.length c2], .bool false]) ?_ rfl ?_
          · exact results_list (rs := [.cell 4 62, .tmp 5]) rfl (by simp) (.cell (w.heap.size + 1 + 1) 62 #[.slice A0 L0.length c0, .slice A1 L1.length c1, .slice A2 L2.length c2] (0, 0) _ rfl HEND.out hu rfl (by kernel_rfl) (.tmp .nil))
          · subst hr; refine ⟨_, _, _, _, _, _, _, _, _, rfl, ?_, ⟨hbend.out, (hst.out.2 _ (by have h1_ := HGX.out; omega)).trans HGW.out⟩⟩; intro x hx; cases hx
        · rw [if_neg z0] at hr
          have j0 : 0 ≤ ji := by omega
          have j1 : ji < (L1.length : Int) := by omega
          have hjn := Aside0.mk (show ji.toNat = L1.length - 1 by omega)
          have dj : decide (ji < 0) = false := decide_eq_false (by omega)
          obtain ⟨ad, ea, hx0⟩ := Kd.at_int HN1.out.2.2 ji j0 j1
          cases ea
          have HCX := Aside0.mk HN1.out.2.2
          obtain ⟨lx, hlx, hcx, hcut, hrd⟩ := takeJ_of 22 3 Try.underlying22 hi0 hsz0 (some ad) c1 L1 ji j0 (by omega) HN1.out.2.1
          have HCUT := Aside0.mk hcut
          have HRD := Aside0.mk hrd
          have HLX := Aside0.mk hlx
          have HCX2 := Aside0.mk hcx
          clear hcut hrd hlx hcx hji hx0
          go_upto_region 15 with (fail)
          refine wp_region_X 14 (S := (fun W => W.heap[w.heap.size]? = some (.cells #[.slice A0 L0.length c0, .slice (some ad) L1.length c1, .slice A2 L2.length c2] 62) ∧ Kd.C (Kd.int .i64) W (some ad) L1.length L1)) (by kernel_rfl) ⟨Y1.out, HCX.out⟩ (fun hHeld => ?_)
          refine wpAnyX_takeP (i := 0) (oi := ?oir0) (v := ?vr0) ?hir0 (by kernel_rfl) (by kernel_rfl) (by kernel_rfl) rfl ?hQr0 ?hyr0 (fun _ => hHeld) ?hr0
          case hir0 => (simp only [gAx, gSx, gZx]; rfl)
          case hQr0 => exact fun _ _ _ h => h
          case hyr0 => exact Or.inl ⟨by rfl, by intro w_ hSw; first | (go_simp; done) | (go_simp; with_reducible rfl)⟩
          try simp only [Act.put, sAx, sZx, sSx]
          refine wpAnyX_takeS (i := 1) (oi := ?oir1) (v := (.slice (some ad) L1.length c1)) ?hir1 (by kernel_rfl) (by kernel_rfl) (by kernel_rfl) rfl (by kernel_rfl) (by rfl) ?hQr1 ?hyr1 hHeld ?hr1
          case hir1 => (simp only [gAx, gSx, gZx]; rfl)
          case hQr1 => exact fun _ _ _ h => h
          case hyr1 => exact Or.inl ⟨by rfl, by intro w_ hSw; obtain ⟨h0_, h1_, h2_⟩ := cellsA hSw.1; first | (go_simp; done) | (go_simp; with_reducible rfl)⟩
          try simp only [Act.put, sAx, sZx, sSx]
          refine wpAnyX_takeP (i := 2) (oi := ?oir2) (v := ?vr2) ?hir2 (by kernel_rfl) (by kernel_rfl) (by kernel_rfl) rfl ?hQr2 ?hyr2 (fun _ => hHeld) ?hr2
          case hir2 => (simp only [gAx, gSx, gZx]; rfl)
          case hQr2 => exact fun _ _ _ h => h
          case hyr2 => exact Or.inl ⟨by rfl, by intro w_ hSw; first | (go_simp; done) | (go_simp; with_reducible rfl)⟩
          try simp only [Act.put, sAx, sZx, sSx]
          refine wpAnyX_takeP (i := 3) (oi := ?oir3) (v := ?vr3) ?hir3 (by kernel_rfl) (by kernel_rfl) (by kernel_rfl) rfl ?hQr3 ?hyr3 (fun _ => hHeld) ?hr3
          case hir3 => (simp only [gAx, gSx, gZx]; rfl)
          case hQr3 => exact fun _ _ _ h => h
          case hyr3 => exact Or.inl ⟨by rfl, by intro w_ hSw; first | (go_simp; done) | (go_simp; with_reducible rfl)⟩
          try simp only [Act.put, sAx, sZx, sSx]
          refine wpAnyX_takeS (i := 4) (oi := ?oir4) (v := (.int .i64 (rd L1 ji))) ?hir4 (by kernel_rfl) (by kernel_rfl) (by kernel_rfl) rfl (by kernel_rfl) (by rfl) ?hQr4 ?hyr4 hHeld ?hr4
          case hir4 => (simp only [gAx, gSx, gZx]; rfl)
          case hQr4 => exact fun _ _ _ h => h
          case hyr4 => exact Or.inl ⟨by rfl, by intro w_ hSw; obtain ⟨ad_, e_, hx_⟩ := Kd.at_int hSw.2 ji j0 j1; cases e_; first | (go_simp; done) | (go_simp; with_reducible rfl)⟩
          try simp only [Act.put, sAx, sZx, sSx]
          refine wpAnyX_takeP (i := 6) (oi := ?oir6) (v := ?vr6) ?hir6 (by kernel_rfl) (by kernel_rfl) (by kernel_rfl) rfl ?hQr6 ?hyr6 (fun _ => hHeld) ?hr6
          case hir6 => (simp only [gAx, gSx, gZx]; rfl)
          case hQr6 => exact fun _ _ _ h => h
          case hyr6 => exact Or.inl ⟨by rfl, by intro w_ hSw; first | (go_simp; done) | (go_simp; with_reducible rfl)⟩
          try simp only [Act.put, sAx, sZx, sSx]
          refine wpAnyX_takeS (i := 7) (oi := ?oir7) (v := (.slice A0 L0.length c0)) ?hir7 (by kernel_rfl) (by kernel_rfl) (by kernel_rfl) rfl (by kernel_rfl) (by rfl) ?hQr7 ?hyr7 hHeld ?hr7
          case hir7 => (simp only [gAx, gSx, gZx]; rfl)
          case hQr7 => exact fun _ _ _ h => h
          case hyr7 => exact Or.inl ⟨by rfl, by intro w_ hSw; obtain ⟨h0_, h1_, h2_⟩ := cellsA hSw.1; first | (go_simp; done) | (go_simp; with_reducible rfl)⟩
          try simp only [Act.put, sAx, sZx, sSx]
          refine wpAnyX_takeP (i := 9) (oi := ?oir9) (v := ?vr9) ?hir9 (by kernel_rfl) (by kernel_rfl) (by kernel_rfl) rfl ?hQr9 ?hyr9 (fun _ => hHeld) ?hr9
          case hir9 => (simp only [gAx, gSx, gZx]; rfl)
          case hQr9 => exact fun _ _ _ h => h
          case hyr9 => exact Or.inl ⟨by rfl, by intro w_ hSw; first | (go_simp; done) | (go_simp; with_reducible rfl)⟩
          try simp only [Act.put, sAx, sZx, sSx]
          refine wpAnyX_takeS (i := 10) (oi := ?oir10) (v := (.slice (some ad) L1.length c1)) ?hir10 (by kernel_rfl) (by kernel_rfl) (by kernel_rfl) rfl (by kernel_rfl) (by rfl) ?hQr10 ?hyr10 hHeld ?hr10
          case hir10 => (simp only [gAx, gSx, gZx]; rfl)
          case hQr10 => exact fun _ _ _ h => h
          case hyr10 => exact Or.inl ⟨by rfl, by intro w_ hSw; obtain ⟨h0_, h1_, h2_⟩ := cellsA hSw.1; first | (go_simp; done) | (go_simp; with_reducible rfl)⟩
          try simp only [Act.put, sAx, sZx, sSx]
          refine wpAnyX_takeP (i := 11) (oi := ?oir11) (v := ?vr11) ?hir11 (by kernel_rfl) (by kernel_rfl) (by kernel_rfl) rfl ?hQr11 ?hyr11 (fun _ => hHeld) ?hr11
          case hir11 => (simp only [gAx, gSx, gZx]; rfl)
          case hQr11 => exact fun _ _ _ h => h
          case hyr11 => exact Or.inl ⟨by rfl, by intro w_ hSw; first | (go_simp; done) | (go_simp; with_reducible rfl)⟩
          try simp only [Act.put, sAx, sZx, sSx]
          refine wpAnyX_takeP (i := 12) (oi := ?oir12) (v := (.slice (some ad) lx.length c1)) ?hir12 (by kernel_rfl) (by kernel_rfl) (by kernel_rfl) rfl ?hQr12 ?hyr12 (fun _ => hHeld) ?hr12
          case hir12 => (simp only [gAx, gSx, gZx]; rfl)
          case hQr12 => exact fun _ _ _ h => h
          case hyr12 => exact Or.inl ⟨by rfl, by intro w_ hSw; have hcut := HCUT.out; first | (go_simp; done) | (go_simp; with_reducible rfl)⟩
          try simp only [Act.put, sAx, sZx, sSx]
          refine wpAnyX_oneS (i := 5) (o := ?ocr5) (by kernel_rfl) ?hcr5 (fun K hK => ?hkr5)
          case hcr5 => (simp only [gAx, gSx, gZx]; rfl)
          refine Kd.R_lit_step (Kd.int .i64) (w0 := wa) wa.heap.size 3 (by rfl) (N := 75) rfl (xs := [rd L1 ji]) (inner := [.int .i64 (rd L1 ji)]) (ok := fun _ => True) (okp := fun _ => True) ?hrr (Kd.reps_scalar _) (fun _ hk => hk) trivial (below_drew (Below.refl _ _)) (Nat.le_refl _) (by simp) ?_
          case hrr => first | (go_simp; done) | (go_simp; rfl)
          intro v7 w7 ho hb hg_ hnew_
          obtain ⟨ll, hll⟩ : ∃ ll, ll = [rd L1 ji] := ⟨_, rfl⟩
          rw [← hll] at ho
          have HLL := Aside0.mk hll
          obtain ⟨A7, c7, e7⟩ := Kd.R_slice ho
          subst e7
          have HV7 := Aside0.mk ho
          have HB7 := Aside0.mk hb
          clear ho hb hg_ hnew_ hll
          refine hK.out _ _ ⟨(HB7.out.block _ (lt_of_block Y1.out)).trans Y1.out, Kd.C_below HCX.out HB7.out⟩ (fun hHeld => ?_)
          clear hK K
          try simp only [Act.put, sAx, sZx, sSx]
          refine wpAnyX_oneS (i := 8) (o := ?ocr8) (by kernel_rfl) ?hcr8 (fun K hK => ?hkr8)
          case hcr8 => (simp only [gAx, gSx, gZx]; rfl)
          refine Kd.R_append_rows_step (Kd.int .i64) (w0 := wa) wa.heap.size (by rfl) (.tmp 75) (.tmp 77) 22 3 (.int .i64 0) 8 rfl Try.underlying22 info3 rfl (by decide) (by omega) (.slice A7 ll.length c7) ll L0 _ _ _ (fun _ => True) (fun _ => False) rfl rfl ?aO ?aR (fun _ _ h => h) (fun _ h => h.elim) ?aF ?aB ?aS ?aL ?_
          case aO => exact HV7.out
          case aR => exact Kd.C_below HN0.out.2.2 HB7.out
          case aF => exact fun k_ _ => trivial
          case aB => exact HB7.out
          case aS => exact HB7.out.size
          case aL => have h1_ := HLL.out; subst h1_; simp; have := HL0.out; omega
          intro v8 w8 ho hb hg hat
          obtain ⟨ly, hly⟩ : ∃ ly, ly = ll ++ L0 := ⟨_, rfl⟩
          rw [← hly] at ho
          have HLY := Aside0.mk hly
          obtain ⟨A8, c8, e8⟩ := Kd.R_slice ho
          subst e8
          have HV8 := Aside0.mk ho
          have HB8w := Aside0.mk hb
          have HB8 := Aside0.mk (below_lower (Below.refl _ _) hb HBA.out)
          clear ho hb hg hat hly
          have RX1 := Aside0.mk (RowA.of (m := w.heap.size) (Kd.R_below RW1.out HB8w.out) (Nat.le_refl _) (fun k_ hk _ => Or.inl hk.2.2))
          have RX2 := Aside0.mk (RowA.of (m := w.heap.size) (Kd.R_below RW2.out HB8w.out) (Nat.le_refl _) (fun k_ hk _ => Or.inl hk.2.2))
          have YP := Aside0.mk ((HB8w.out.block _ (lt_of_block Y1.out)).trans Y1.out)
          have YP3 := Aside0.mk ((HB8w.out.block _ (lt_of_block Y3.out)).trans Y3.out)
          have YG := Aside0.mk ((HB8w.out.block gx HGA.out).trans HGW.out)
          refine hK.out _ _ ⟨YP.out, RX1.out.2.2 _ (StaysA.refl _ _ _ _)⟩ (fun hHeld => ?_)
          clear hK K
          try simp only [Act.put, sAx, sZx, sSx]
          refine wpAnyX_takeP (i := 13) (oi := ?oir13) (v := ?vr13) ?hir13 (by kernel_rfl) (by kernel_rfl) (by kernel_rfl) rfl ?hQr13 ?hyr13 (fun _ => hHeld) ?hr13
          case hir13 => (simp only [gAx, gSx, gZx]; rfl)
          case hQr13 => exact fun _ _ _ h => h
          case hyr13 => exact Or.inl ⟨by rfl, by intro w_ hSw; first | (go_simp; done) | (go_simp; with_reducible rfl)⟩
          try simp only [Act.put, sAx, sZx, sSx]
          refine wpAnyX_oneF (i := 14) (o := ?ocr14) (by kernel_rfl) ?hcr14 (by rfl) (fun K hK => ?hkr14)
          case hcr14 => (simp only [gAx, gSx, gZx]; rfl)
          obtain ⟨c0_, c1_, c2_⟩ := cellsA YP.out
          have f_ := frz YP.out 0
          go_simp
          refine hK.out _ _ ?_
          clear hK K c0_ c1_ c2_ f_
          try simp only [Act.put, sAx, sZx, sSx]
          have YP1 := Aside0.mk (blk_put YP.out 0 (.slice A8 ly.length c8) (cs' := #[.slice A8 ly.length c8, .slice (some ad) L1.length c1, .slice A2 L2.length c2]) rfl)
          refine wpAnyX_takeP (i := 15) (oi := ?oir15) (v := ?vr15) ?hir15 (by kernel_rfl) (by kernel_rfl) (by kernel_rfl) rfl ?hQr15 ?hyr15 (fun h_ => nomatch (show true = false from h_)) ?hr15
          case hir15 => (simp only [gAx, gSx, gZx]; rfl)
          case hQr15 => exact fun _ _ _ h => h
          case hyr15 => exact Or.inl ⟨by rfl, by intro w_ hSw; first | (go_simp; done) | (go_simp; with_reducible rfl)⟩
          try simp only [Act.put, sAx, sZx, sSx]
          refine wpAnyX_oneF (i := 16) (o := ?ocr16) (by kernel_rfl) ?hcr16 (by rfl) (fun K hK => ?hkr16)
          case hcr16 => (simp only [gAx, gSx, gZx]; rfl)
          obtain ⟨c0_, c1_, c2_⟩ := cellsA YP1.out
          have f_ := frz YP1.out 1
          go_simp
          refine hK.out _ _ ?_
          clear hK K c0_ c1_ c2_ f_
          try simp only [Act.put, sAx, sZx, sSx]
          have YP2 := Aside0.mk (blk_put YP1.out 1 (.slice (some ad) lx.length c1) (cs' := #[.slice A8 ly.length c8, .slice (some ad) lx.length c1, .slice A2 L2.length c2]) rfl)
          refine wpAnyX_done (by kernel_rfl) ?_ _
          go_wp2_with (fail)
          go_meet
          case rel =>
            refine ⟨_, _, _, _, _, _, _, _, _, ly, lx, L2, ob, rfl, ⟨?_⟩, YP2, ⟨?_⟩, ⟨RowA.later (RowA.of HV8.out HBA.out (fun k_ _ hk => Or.inr (by have := HWA.out; omega))) (by rw [World.size_setCell, World.size_setCell]; exact Nat.le_refl _) (fun k_ _ hk2 => (Below.heap_setCell _ _ _ _ (show k_ ≠ w.heap.size by omega)).trans (Below.heap_setCell _ _ _ _ (show k_ ≠ w.heap.size by omega)))⟩, ⟨RowA.later (RowA.map RX1.out rfl HCX2.out HRD.out) (by rw [World.size_setCell, World.size_setCell]; exact Nat.le_refl _) (fun k_ _ hk2 => (Below.heap_setCell _ _ _ _ (show k_ ≠ w.heap.size by omega)).trans (Below.heap_setCell _ _ _ _ (show k_ ≠ w.heap.size by omega)))⟩, ⟨RowA.later (RX2.out) (by rw [World.size_setCell, World.size_setCell]; exact Nat.le_refl _) (fun k_ _ hk2 => (Below.heap_setCell _ _ _ _ (show k_ ≠ w.heap.size by omega)).trans (Below.heap_setCell _ _ _ _ (show k_ ≠ w.heap.size by omega)))⟩, ⟨?_⟩, ⟨?_⟩⟩
            · rw [← hr, HLY.out, HLL.out, HLX.out, hjn.out, ← HJ.out]; exact zf_ob _ _ _ HOB.out _
            · exact (Below.heap_setCell _ _ _ _ (show w.heap.size + 1 + 1 ≠ w.heap.size by omega)).trans ((Below.heap_setCell _ _ _ _ (show w.heap.size + 1 + 1 ≠ w.heap.size by omega)).trans YP3.out)
            · exact Below.setCell (Below.setCell (below_lower HBB.out HB8.out (Nat.le_refl _)) HB.out _) HB.out _
            · exact (Below.heap_setCell _ _ _ _ (show gx ≠ w.heap.size by have h1_ := HGX.out; omega)).trans ((Below.heap_setCell _ _ _ _ (show gx ≠ w.heap.size by have h1_ := HGX.out; omega)).trans YG.out)
      by_cases e4 : kd = 4
      · subst e4
        simp only [mkF, show ¬ (4 : Int) = 1 from by decide, show ¬ (4 : Int) = 2 from by decide, show ¬ (4 : Int) = 3 from by decide, ↓reduceIte] at h
        obtain ⟨b, hbk, h⟩ := Option.bind_eq_some_iff.1 h
        have hr := Option.some.inj h
        have HBK := Aside0.mk hbk
        clear h hbk
        have hl0 := HL0.out
        by_cases z0 : L0.length < 2
        · rw [if_pos z0] at hr
          have dz : decide ((1 : Int) < (L0.length : Int)) = false := decide_eq_false (by omega)
          have dy : ¬ (1 : Int) < (L0.length : Int) := by omega
          cases ob
          · go_wp2_with (first
              | (go_at_call 52; (refine (impl_back.calls k A0 c0 L0 b _ HN0.out.2.2 HN0.out.2.1 HBK.out).mono ?_); rintro e w8 ⟨v8, rfl, ho, hb⟩; obtain ⟨A8, c8, e8⟩ := Kd.R_slice ho; subst e8; have HV8 := Aside0.mk ho; have HB8w := Aside0.mk hb; have YP := Aside0.mk ((hb.block _ (lt_of_block Y1.out)).trans Y1.out); have YP3 := Aside0.mk ((hb.block _ (lt_of_block Y3.out)).trans Y3.out); obtain ⟨c0_, c1_, c2_⟩ := cellsA YP.out; have f_ := frz YP.out 0; clear ho hb))
            go_meet
            case rel =>
              refine ⟨_, _, _, _, _, _, _, _, _, b, L1, L2, false, rfl, ⟨?_⟩, ⟨blk_put YP.out 0 (.slice A8 b.length c8) (cs' := #[.slice A8 b.length c8, .slice A1 L1.length c1, .slice A2 L2.length c2]) rfl⟩, ⟨(Below.heap_setCell _ _ _ _ (show w.heap.size + 1 + 1 ≠ w.heap.size by omega)).trans YP3.out⟩, ⟨RowA.later (RowA.of HV8.out HBA.out (fun k_ _ hk => Or.inr (by have := HWA.out; omega))) (by rw [World.size_setCell]; exact Nat.le_refl _) (fun k_ _ hk2 => (Below.heap_setCell _ _ _ _ (show k_ ≠ w.heap.size by omega)))⟩, ⟨RowA.later (RowA.of (m := w.heap.size) (Kd.R_below RW1.out HB8w.out) (Nat.le_refl _) (fun k_ hk _ => Or.inl hk.2.2)) (by rw [World.size_setCell]; exact Nat.le_refl _) (fun k_ _ hk2 => (Below.heap_setCell _ _ _ _ (show k_ ≠ w.heap.size by omega)))⟩, ⟨RowA.later (RowA.of (m := w.heap.size) (Kd.R_below RW2.out HB8w.out) (Nat.le_refl _) (fun k_ hk _ => Or.inl hk.2.2)) (by rw [World.size_setCell]; exact Nat.le_refl _) (fun k_ _ hk2 => (Below.heap_setCell _ _ _ _ (show k_ ≠ w.heap.size by omega)))⟩, ⟨Below.setCell (below_lower HBB.out HB8w.out HBA.out) HB.out _⟩, ⟨(Below.heap_setCell _ _ _ _ (show gx ≠ w.heap.size by have h1_ := HGX.out; omega)).trans ((HB8w.out.block gx HGA.out).trans HGW.out)⟩⟩
              exact hr.symm
          · go_wp2_with (first
              | (go_at_call 52; (refine (impl_back.calls k A0 c0 L0 b _ HN0.out.2.2 HN0.out.2.1 HBK.out).mono ?_); rintro e w8 ⟨v8, rfl, ho, hb⟩; obtain ⟨A8, c8, e8⟩ := Kd.R_slice ho; subst e8; have HV8 := Aside0.mk ho; have HB8w := Aside0.mk hb; have YP := Aside0.mk ((hb.block _ (lt_of_block Y1.out)).trans Y1.out); have YP3 := Aside0.mk ((hb.block _ (lt_of_block Y3.out)).trans Y3.out); obtain ⟨c0_, c1_, c2_⟩ := cellsA YP.out; have f_ := frz YP.out 0; clear ho hb))
            go_meet
            case rel =>
              refine ⟨_, _, _, _, _, _, _, _, _, b, L1, L2, false, rfl, ⟨?_⟩, ⟨blk_put YP.out 0 (.slice A8 b.length c8) (cs' := #[.slice A8 b.length c8, .slice A1 L1.length c1, .slice A2 L2.length c2]) rfl⟩, ⟨(Below.heap_setCell _ _ _ _ (show w.heap.size + 1 + 1 ≠ w.heap.size by omega)).trans YP3.out⟩, ⟨RowA.later (RowA.of HV8.out HBA.out (fun k_ _ hk => Or.inr (by have := HWA.out; omega))) (by rw [World.size_setCell]; exact Nat.le_refl _) (fun k_ _ hk2 => (Below.heap_setCell _ _ _ _ (show k_ ≠ w.heap.size by omega)))⟩, ⟨RowA.later (RowA.of (m := w.heap.size) (Kd.R_below RW1.out HB8w.out) (Nat.le_refl _) (fun k_ hk _ => Or.inl hk.2.2)) (by rw [World.size_setCell]; exact Nat.le_refl _) (fun k_ _ hk2 => (Below.heap_setCell _ _ _ _ (show k_ ≠ w.heap.size by omega)))⟩, ⟨RowA.later (RowA.of (m := w.heap.size) (Kd.R_below RW2.out HB8w.out) (Nat.le_refl _) (fun k_ hk _ => Or.inl hk.2.2)) (by rw [World.size_setCell]; exact Nat.le_refl _) (fun k_ _ hk2 => (Below.heap_setCell _ _ _ _ (show k_ ≠ w.heap.size by omega)))⟩, ⟨Below.setCell (below_lower HBB.out HB8w.out HBA.out) HB.out _⟩, ⟨(Below.heap_setCell _ _ _ _ (show gx ≠ w.heap.size by have h1_ := HGX.out; omega)).trans ((HB8w.out.block gx HGA.out).trans HGW.out)⟩⟩
              exact hr.symm
        · rw [if_neg z0] at hr
          have dz : decide ((1 : Int) < (L0.length : Int)) = true := decide_eq_true (by omega)
          have dy : (1 : Int) < (L0.length : Int) := by omega
          cases ob
          · go_wp2_with (first
              | (go_at_call 52; (refine (impl_back.calls k A0 c0 L0 b _ HN0.out.2.2 HN0.out.2.1 HBK.out).mono ?_); rintro e w8 ⟨v8, rfl, ho, hb⟩; obtain ⟨A8, c8, e8⟩ := Kd.R_slice ho; subst e8; have HV8 := Aside0.mk ho; have HB8w := Aside0.mk hb; have YP := Aside0.mk ((hb.block _ (lt_of_block Y1.out)).trans Y1.out); have YP3 := Aside0.mk ((hb.block _ (lt_of_block Y3.out)).trans Y3.out); obtain ⟨c0_, c1_, c2_⟩ := cellsA YP.out; have f_ := frz YP.out 0; clear ho hb))
            go_meet
            case rel =>
              refine ⟨_, _, _, _, _, _, _, _, _, b, L1, L2, false, rfl, ⟨?_⟩, ⟨blk_put YP.out 0 (.slice A8 b.length c8) (cs' := #[.slice A8 b.length c8, .slice A1 L1.length c1, .slice A2 L2.length c2]) rfl⟩, ⟨(Below.heap_setCell _ _ _ _ (show w.heap.size + 1 + 1 ≠ w.heap.size by omega)).trans YP3.out⟩, ⟨RowA.later (RowA.of HV8.out HBA.out (fun k_ _ hk => Or.inr (by have := HWA.out; omega))) (by rw [World.size_setCell]; exact Nat.le_refl _) (fun k_ _ hk2 => (Below.heap_setCell _ _ _ _ (show k_ ≠ w.heap.size by omega)))⟩, ⟨RowA.later (RowA.of (m := w.heap.size) (Kd.R_below RW1.out HB8w.out) (Nat.le_refl _) (fun k_ hk _ => Or.inl hk.2.2)) (by rw [World.size_setCell]; exact Nat.le_refl _) (fun k_ _ hk2 => (Below.heap_setCell _ _ _ _ (show k_ ≠ w.heap.size by omega)))⟩, ⟨RowA.later (RowA.of (m := w.heap.size) (Kd.R_below RW2.out HB8w.out) (Nat.le_refl _) (fun k_ hk _ => Or.inl hk.2.2)) (by rw [World.size_setCell]; exact Nat.le_refl _) (fun k_ _ hk2 => (Below.heap_setCell _ _ _ _ (show k_ ≠ w.heap.size by omega)))⟩, ⟨Below.setCell (below_lower HBB.out HB8w.out HBA.out) HB.out _⟩, ⟨(Below.heap_setCell _ _ _ _ (show gx ≠ w.heap.size by have h1_ := HGX.out; omega)).trans ((HB8w.out.block gx HGA.out).trans HGW.out)⟩⟩
              rw [← hr]; exact zf_ob _ _ _ HOB.out _
          · go_wp2_with (first
              | (go_at_call 52; (refine (impl_back.calls k A0 c0 L0 b _ HN0.out.2.2 HN0.out.2.1 HBK.out).mono ?_); rintro e w8 ⟨v8, rfl, ho, hb⟩; obtain ⟨A8, c8, e8⟩ := Kd.R_slice ho; subst e8; have HV8 := Aside0.mk ho; have HB8w := Aside0.mk hb; have YP := Aside0.mk ((hb.block _ (lt_of_block Y1.out)).trans Y1.out); have YP3 := Aside0.mk ((hb.block _ (lt_of_block Y3.out)).trans Y3.out); obtain ⟨c0_, c1_, c2_⟩ := cellsA YP.out; have f_ := frz YP.out 0; clear ho hb))
            go_meet
            case rel =>
              refine ⟨_, _, _, _, _, _, _, _, _, b, L1, L2, true, rfl, ⟨?_⟩, ⟨blk_put YP.out 0 (.slice A8 b.length c8) (cs' := #[.slice A8 b.length c8, .slice A1 L1.length c1, .slice A2 L2.length c2]) rfl⟩, ⟨(Below.heap_setCell _ _ _ _ (show w.heap.size + 1 + 1 ≠ w.heap.size by omega)).trans YP3.out⟩, ⟨RowA.later (RowA.of HV8.out HBA.out (fun k_ _ hk => Or.inr (by have := HWA.out; omega))) (by rw [World.size_setCell]; exact Nat.le_refl _) (fun k_ _ hk2 => (Below.heap_setCell _ _ _ _ (show k_ ≠ w.heap.size by omega)))⟩, ⟨RowA.later (RowA.of (m := w.heap.size) (Kd.R_below RW1.out HB8w.out) (Nat.le_refl _) (fun k_ hk _ => Or.inl hk.2.2)) (by rw [World.size_setCell]; exact Nat.le_refl _) (fun k_ _ hk2 => (Below.heap_setCell _ _ _ _ (show k_ ≠ w.heap.size by omega)))⟩, ⟨RowA.later (RowA.of (m := w.heap.size) (Kd.R_below RW2.out HB8w.out) (Nat.le_refl _) (fun k_ hk _ => Or.inl hk.2.2)) (by rw [World.size_setCell]; exact Nat.le_refl _) (fun k_ _ hk2 => (Below.heap_setCell _ _ _ _ (show k_ ≠ w.heap.size by omega)))⟩, ⟨Below.setCell (below_lower HBB.out HB8w.out HBA.out) HB.out _⟩, ⟨(Below.heap_setCell _ _ _ _ (show gx ≠ w.heap.size by have h1_ := HGX.out; omega)).trans ((HB8w.out.block gx HGA.out).trans HGW.out)⟩⟩
              rw [← hr]; exact zf_ob _ _ _ HOB.out _
      by_cases e5 : kd = 5
      · subst e5
        simp only [mkF, show ¬ (5 : Int) = 1 from by decide, show ¬ (5 : Int) = 2 from by decide, show ¬ (5 : Int) = 3 from by decide, show ¬ (5 : Int) = 4 from by decide, ↓reduceIte] at h
        obtain ⟨⟨o1, o2⟩, hbk, h⟩ := Option.bind_eq_some_iff.1 h
        have hr := Option.some.inj h
        have HBK := Aside0.mk hbk
        clear h hbk
        cases o2
        · go_wp2_with (first
            | (go_at_call 53; (refine (impl_OrderAt.calls k aa bb o1 false _ HBK.out).mono ?_); rintro e w8 ⟨v8, rfl, ho, hb⟩; obtain ⟨A8, c8, e8⟩ := Kd.R_slice ho; subst e8; have HV8 := Aside0.mk ho; have HB8w := Aside0.mk hb; have YP3 := Aside0.mk ((hb.block _ (lt_of_block Y3.out)).trans Y3.out); have HB8 := Aside0.mk (below_lower HBB.out hb HBA.out); clear ho hb)
            | ((with_reducible refine gate_dst (N := 109) rfl ?_); refine Kd.event_run rfl (execBuild (cs := #[.slice A8 o1.length c8, .slice none 0 0, .slice none 0 0]) rfl (by (try simp only [List.map_toArray, List.map_cons, List.map_nil]); go_simp; kernel_rfl)) ?_)
            | ((with_reducible refine gate_store (t := 62) (p := 4) rfl ?_); refine store_row_event rfl rfl 62 (.tmp 4) (.tmp 109) rfl (w.heap.size + 1 + 1) #[.slice A8 o1.length c8, .slice none 0 0, .slice none 0 0] rfl rfl 62 _ YP3.out hi rfl (by kernel_rfl) ?_; intro wz hh ho; have HEND := Aside0.mk hh; have hbend := Aside0.mk (ho.below HB8.out (by have := HB.out; omega)); have hst := Aside0.mk (show wz.heap.size = w8.heap.size ∧ (∀ k_, k_ ≠ w.heap.size + 1 + 1 → wz.heap[k_]? = w8.heap[k_]?) from ⟨ho.size, fun k_ hk => ho.other k_ hk⟩); clear hh ho))
          refine bodyPost_ret (v := .tuple #[.agg #[.slice A8 o1.length c8, .slice none 0 0, .slice none 0 0], .bool false]) ?_ rfl ?_
          · exact results_list (rs := [.cell 4 62, .tmp 5]) rfl (by simp) (.cell (w.heap.size + 1 + 1) 62 #[.slice A8 o1.length c8, .slice none 0 0, .slice none 0 0] (0, 0) _ rfl HEND.out hu rfl (by kernel_rfl) (.tmp .nil))
          · subst hr
            refine ⟨_, _, _, _, _, _, _, _, _, rfl, fun x hx => ?_, hbend.out, (hst.out.2 _ (by have h1_ := HGX.out; omega)).trans ((HB8w.out.block gx HGA.out).trans HGW.out)⟩
            cases hx
        · go_wp2_with (first
            | (go_at_call 53; (refine (impl_OrderAt.calls k aa bb o1 true _ HBK.out).mono ?_); rintro e w8 ⟨v8, rfl, ho, hb⟩; obtain ⟨A8, c8, e8⟩ := Kd.R_slice ho; subst e8; have HV8 := Aside0.mk ho; have HB8w := Aside0.mk hb; have YP3 := Aside0.mk ((hb.block _ (lt_of_block Y3.out)).trans Y3.out); have HB8 := Aside0.mk (below_lower HBB.out hb HBA.out); clear ho hb)
            | ((with_reducible refine gate_dst (N := 109) rfl ?_); refine Kd.event_run rfl (execBuild (cs := #[.slice A8 o1.length c8, .slice none 0 0, .slice none 0 0]) rfl (by (try simp only [List.map_toArray, List.map_cons, List.map_nil]); go_simp; kernel_rfl)) ?_)
            | ((with_reducible refine gate_store (t := 62) (p := 4) rfl ?_); refine store_row_event rfl rfl 62 (.tmp 4) (.tmp 109) rfl (w.heap.size + 1 + 1) #[.slice A8 o1.length c8, .slice none 0 0, .slice none 0 0] rfl rfl 62 _ YP3.out hi rfl (by kernel_rfl) ?_; intro wz hh ho; have HEND := Aside0.mk hh; have hbend := Aside0.mk (ho.below HB8.out (by have := HB.out; omega)); have hst := Aside0.mk (show wz.heap.size = w8.heap.size ∧ (∀ k_, k_ ≠ w.heap.size + 1 + 1 → wz.heap[k_]? = w8.heap[k_]?) from ⟨ho.size, fun k_ hk => ho.other k_ hk⟩); clear hh ho))
          refine bodyPost_ret (v := .tuple #[.agg #[.slice A8 o1.length c8, .slice none 0 0, .slice none 0 0], .bool true]) ?_ rfl ?_
          · exact results_list (rs := [.cell 4 62, .tmp 5]) rfl (by simp) (.cell (w.heap.size + 1 + 1) 62 #[.slice A8 o1.length c8, .slice none 0 0, .slice none 0 0] (0, 0) _ rfl HEND.out hu rfl (by kernel_rfl) (.tmp .nil))
          · subst hr
            refine ⟨_, _, _, _, _, _, _, _, _, rfl, fun x hx => ?_, hbend.out, (hst.out.2 _ (by have h1_ := HGX.out; omega)).trans ((HB8w.out.block gx HGA.out).trans HGW.out)⟩
            cases hx
            exact ⟨RowA.toS (RowA.of HV8.out HBA.out (fun k_ _ hk => Or.inr (by have := HWA.out; omega))) HGX.out hst.out, RowG.nil, RowG.nil⟩
      simp only [mkF, if_neg e1, if_neg e2, if_neg e3, if_neg e4, if_neg e5] at h
      have hr := Option.some.inj h
      clear h
      have f1 := beq_eq_false_iff_ne.mpr e1
      have f2 := beq_eq_false_iff_ne.mpr e2
      have f3 := beq_eq_false_iff_ne.mpr e3
      have f4 := beq_eq_false_iff_ne.mpr e4
      have f5 := beq_eq_false_iff_ne.mpr e5
      go_wp2_with (first
        | ((with_reducible refine gate_dst (N := 24) rfl ?_); refine load_row_event rfl 62 (.tmp 2) rfl w.heap.size rfl 62 #[.slice A0 L0.length c0, .slice A1 L1.length c1, .slice A2 L2.length c2] _ Y1.out hu rfl hi ?_)
        | ((with_reducible refine gate_store (t := 62) (p := 4) rfl ?_); refine store_row_event rfl rfl 62 (.tmp 4) (.tmp 24) rfl (w.heap.size + 1 + 1) #[.slice A0 L0.length c0, .slice A1 L1.length c1, .slice A2 L2.length c2] rfl rfl 62 _ Y3.out hi rfl (by kernel_rfl) ?_; intro wz hh ho; have HEND := Aside0.mk hh; have hbend := Aside0.mk (ho.below (below_lower (Below.refl _ _) HBW.out HB.out) (by have := HB.out; omega)); have hst := Aside0.mk (show wz.heap.size = wa.heap.size ∧ (∀ k_, k_ ≠ w.heap.size + 1 + 1 → wz.heap[k_]? = wa.heap[k_]?) from ⟨ho.size, fun k_ hk => ho.other k_ hk⟩); clear hh ho))
      refine bodyPost_ret (v := .tuple #[.agg #[.slice A0 L0.length c0, .slice A1 L1.length c1, .slice A2 L2.length c2], .bool false]) ?_ rfl ?_
      · exact results_list (rs := [.cell 4 62, .tmp 5]) rfl (by simp) (.cell (w.heap.size + 1 + 1) 62 #[.slice A0 L0.length c0, .slice A1 L1.length c1, .slice A2 L2.length c2] (0, 0) _ rfl HEND.out hu rfl (by kernel_rfl) (.tmp .nil))
      · subst hr; refine ⟨_, _, _, _, _, _, _, _, _, rfl, ?_, ⟨hbend.out, (hst.out.2 _ (by have h1_ := HGX.out; omega)).trans HGW.out⟩⟩; intro x hx; cases hx
    case rest =>
      obtain ⟨X0, n0, d0, X1, n1, d1, X2, n2, d2, l0, l1, l2, o2, rfl, HRZ, V1, V3, RS0, RS1, RS2, HBX, HGV⟩ := hcut
      clear q10 q11 q12 q20 q21 q22 q30 q31 q32 Y1 Y2 Y3 HBC HBW RW0 RW1 RW2 HR0 HR1 HR2 HN0 HN1 HN2
      obtain ⟨q10, q11, q12⟩ := cellsA V1.out
      obtain ⟨q30, q31, q32⟩ := cellsA V3.out
      cases o2
      · go_wp2_with (first
          | ((with_reducible refine gate_dst (N := 111) rfl ?_); refine load_row_event rfl 62 (.tmp 2) rfl w.heap.size rfl 62 #[.slice X0 n0 d0, .slice X1 n1 d1, .slice X2 n2 d2] _ V1.out hu rfl hi ?_)
          | ((with_reducible refine gate_store (t := 62) (p := 4) rfl ?_); refine store_row_event rfl rfl 62 (.tmp 4) (.tmp 111) rfl (w.heap.size + 1 + 1) #[.slice X0 n0 d0, .slice X1 n1 d1, .slice X2 n2 d2] rfl rfl 62 _ V3.out hi rfl (by kernel_rfl) ?_; intro wz hh ho; have HEND := Aside0.mk hh; have hbend := Aside0.mk (ho.below HBX.out (by have := HB.out; omega)); have hst := Aside0.mk (show wz.heap.size = wc.heap.size ∧ (∀ k_, k_ ≠ w.heap.size + 1 + 1 → wz.heap[k_]? = wc.heap[k_]?) from ⟨ho.size, fun k_ hk => ho.other k_ hk⟩); clear hh ho))
        refine bodyPost_ret (v := .tuple #[.agg #[.slice X0 n0 d0, .slice X1 n1 d1, .slice X2 n2 d2], .bool false]) ?_ rfl ?_
        · exact results_list (rs := [.cell 4 62, .tmp 5]) rfl (by simp) (.cell (w.heap.size + 1 + 1) 62 #[.slice X0 n0 d0, .slice X1 n1 d1, .slice X2 n2 d2] (0, 0) _ rfl HEND.out hu rfl (by kernel_rfl) (.tmp .nil))
        · refine ⟨_, _, _, _, _, _, _, _, _, by rw [HRZ.out]; rfl, fun x hx => ?_, ⟨hbend.out, (hst.out.2 _ (by have h1_ := HGX.out; omega)).trans HGV.out⟩⟩; rw [HRZ.out] at hx; obtain rfl := okR_eq hx; exact ⟨RowA.toS RS0.out HGX.out hst.out, RowA.toS RS1.out HGX.out hst.out, RowA.toS RS2.out HGX.out hst.out⟩
      · go_wp2_with (first
          | ((with_reducible refine gate_dst (N := 111) rfl ?_); refine load_row_event rfl 62 (.tmp 2) rfl w.heap.size rfl 62 #[.slice X0 n0 d0, .slice X1 n1 d1, .slice X2 n2 d2] _ V1.out hu rfl hi ?_)
          | ((with_reducible refine gate_store (t := 62) (p := 4) rfl ?_); refine store_row_event rfl rfl 62 (.tmp 4) (.tmp 111) rfl (w.heap.size + 1 + 1) #[.slice X0 n0 d0, .slice X1 n1 d1, .slice X2 n2 d2] rfl rfl 62 _ V3.out hi rfl (by kernel_rfl) ?_; intro wz hh ho; have HEND := Aside0.mk hh; have hbend := Aside0.mk (ho.below HBX.out (by have := HB.out; omega)); have hst := Aside0.mk (show wz.heap.size = wc.heap.size ∧ (∀ k_, k_ ≠ w.heap.size + 1 + 1 → wz.heap[k_]? = wc.heap[k_]?) from ⟨ho.size, fun k_ hk => ho.other k_ hk⟩); clear hh ho))
        refine bodyPost_ret (v := .tuple #[.agg #[.slice X0 n0 d0, .slice X1 n1 d1, .slice X2 n2 d2], .bool true]) ?_ rfl ?_
        · exact results_list (rs := [.cell 4 62, .tmp 5]) rfl (by simp) (.cell (w.heap.size + 1 + 1) 62 #[.slice X0 n0 d0, .slice X1 n1 d1, .slice X2 n2 d2] (0, 0) _ rfl HEND.out hu rfl (by kernel_rfl) (.tmp .nil))
        · refine ⟨_, _, _, _, _, _, _, _, _, by rw [HRZ.out]; rfl, fun x hx => ?_, ⟨hbend.out, (hst.out.2 _ (by have h1_ := HGX.out; omega)).trans HGV.out⟩⟩; rw [HRZ.out] at hx; obtain rfl := okR_eq hx; exact ⟨RowA.toS RS0.out HGX.out hst.out, RowA.toS RS1.out HGX.out hst.out, RowA.toS RS2.out HGX.out hst.out⟩

end Go.Proofs.Ythokeoocdkaffaa.Xl
