/- What an act makes of a yard: the reference. -/
import Derived.Test.YthokeoocdkaffaaXl0
import Derived.Test.YthokeoocdkaffaaXl5
import Derived.Test.YthokeoocdkaffaaXlHarr7
import Derived.Test.YthokeoocdkaffaaXlHgood
import Derived.Test.YthokeoocdkaffaaXlHpart
import Derived.OneCell
import Derived.Lib.SliceRun
import Derived.Shelf.Abstract
import Derived.Deep.RegionHeld3
import Derived.Outline
import Derived.BigQuiet
import Derived.Deep.QuietTactic
import Derived.RegionTactic
import Derived.BigRegion
namespace Go.Proofs.Ythokeoocdkaffaa.Xl
open Go.RowKit Go.Proofs.YthokeoocdkaffaaW.PrintWords Go.Proofs.YthokeoocdkaffaaW.PrintLast Go.Proofs.YthokeoocdkaffaaW.PrintMore
attribute [local go_sem] max2_int min2_int max_two min_two max_three min_three max_four min_four
set_option linter.unusedVariables false
set_option linter.unusedSimpArgs false
/-- What an act makes of the three rows, if it can be made. -/
def zfA (aa bb : Int) (x : List Int × List Int × List Int) : Option (List Int × List Int × List Int) := if aa = 0 ∧ bb = 0 then some x else none
def mkF (back : List Int → Option (List Int)) (ord : Int → Int → Option (List Int × Bool)) (L0 L1 L2 : List Int) (kd aa bb : Int) : Option (Option (List Int × List Int × List Int)) :=
  if kd = 1 then some (if L0.length = 0 then none else zfA aa bb (L0.drop 1, L1 ++ [rd L0 0], L2))
  else if kd = 2 then some (if L1.length = 0 then none else zfA aa bb (L0, L1.take (L1.length - 1), L2 ++ [rd L1 ((L1.length : Int) - 1)]))
  else if kd = 3 then some (if L1.length = 0 then none else zfA aa bb ([rd L1 ((L1.length : Int) - 1)] ++ L0, L1.take (L1.length - 1), L2))
  else if kd = 4 then (back L0).bind fun b => some (if L0.length < 2 then none else zfA aa bb (b, L1, L2))
  else if kd = 5 then (ord aa bb).bind fun o => some (if o.2 = true then some (o.1, [], []) else none)
  else some none
/-- A row that is read in every world that has the blocks from B on. -/
def Stays (B : Nat) (w8 W : World) : Prop := w8.heap.size ≤ W.heap.size ∧ ∀ k, B ≤ k → k < w8.heap.size → W.heap[k]? = w8.heap[k]?
theorem Stays.below {B : Nat} {w8 W W2 : World} (h : Stays B w8 W) (hb : Below W.heap.size W W2) : Stays B w8 W2 := ⟨Nat.le_trans h.1 hb.size, fun k h1 h2 => (hb.block k (by have := h.1; omega)).trans (h.2 k h1 h2)⟩
def RowS (B : Nat) (w8 : World) (A : Option Addr) (n c : Nat) (l : List Int) : Prop := n = l.length ∧ n ≤ c ∧ ∀ W, Stays B w8 W → Kd.C (Kd.int .i64) W A l.length l
theorem RowS.of {B base n c : Nat} {w8 : World} {A : Option Addr} {l : List Int} {ok : Nat → Prop} (h : Kd.R (Kd.int .i64) 3 w8 base ok (.slice A n c) l) (hB : B ≤ base) : RowS B w8 A n c l := by
  obtain ⟨h1, h2, _⟩ := Kd.R_reads' h
  subst h1
  exact ⟨rfl, h2, fun W hW => (Kd.R_reads' (Kd.R_move (Kd.R_bound h) (fun k hk => hW.2 k (Nat.le_trans hB hk.2.1) hk.2.2.1))).2.2⟩
theorem RowS.take {B c n m : Nat} {w8 : World} {A : Option Addr} {l : List Int} (h : RowS B w8 A n c l) (hm : m ≤ l.length) : RowS B w8 A m c (l.take m) := by
  have hl : (l.take m).length = m := by rw [List.length_take]; omega
  refine ⟨hl.symm, by have := h.1; have := h.2.1; omega, fun W hW => Kd.C_take (h.2.2 W hW) hm⟩
theorem RowS.drop1 {B c n : Nat} {w8 : World} {A : Option Addr} {l : List Int} (h : RowS B w8 A n c l) (hm : 1 ≤ l.length) : RowS B w8 (if c = 1 then A else A.map (·.add (1 * 1))) (n - 1) (c - 1) (l.drop 1) := by
  have hl : (l.drop 1).length = l.length - 1 := List.length_drop
  refine ⟨by rw [hl, h.1], by have := h.2.1; omega, fun W hW => Kd.C_drop (h.2.2 W hW) hm (by have := h.1; have := h.2.1; omega)⟩
theorem RowS.drop2 {B c n : Nat} {w8 : World} {A : Option Addr} {l : List Int} (h : RowS B w8 A n c l) (hm : 1 ≤ l.length) (A' : Option Addr) (c' : Nat) (h1 : c = 1 → A' = A ∧ c' = 0) (h2 : ¬ c = 1 → A' = A.map (·.add 1) ∧ c' = c - 1) : RowS B w8 A' (n - 1) c' (l.drop 1) := by
  have hd := RowS.drop1 h hm
  by_cases hc : c = 1
  · obtain ⟨rfl, rfl⟩ := h1 hc
    rw [if_pos hc, hc] at hd
    exact hd
  · obtain ⟨rfl, rfl⟩ := h2 hc
    rw [if_neg hc] at hd
    exact hd
theorem RowS.nil {B : Nat} {w8 : World} : RowS B w8 none 0 0 [] := ⟨rfl, Nat.le_refl _, fun _ _ => Kd.C_nil _ _⟩
theorem row_apart {base base' e : Nat} {W W1 : World} {v v' : Value} {l l' : List Int} {ok ok' : Nat → Prop} (h : Kd.R (Kd.int .i64) e W base ok v l) (h' : Kd.R (Kd.int .i64) e W base' ok' v' l') (hg : W.grownBy W1 v.ownBlock) (hd : ∀ k, ok k → ok' k → False) : Kd.R (Kd.int .i64) e W1 base' ok' v' l' := Kd.R_grown h' hg (fun k hk he => hd k (h.1 k he.symm) hk)
theorem arrayS (A : Option Addr) (n c : Nat) (l : List Int) (B : Nat) (w8 W : World) (h : RowS B w8 A n c l) (hW : Stays B w8 W) : Calls Try.prog 33 #[.slice A n c] W fun e w' => e = .returned (.agg (arr (m7 fun j : Nat => rd l (j : Int)))) ∧ Below W.heap.size W w' := by
  obtain ⟨rfl, h2, h3⟩ := h
  exact spec_l12Array_walk A c l W (h3 W hW) h2
theorem execBuild {P : Program} {o : Oper} {a : Act} {W : World} {t : TypeId} {parts : Array (Nat × Operand)} {cs : Array Value} (ho : o.op = .build t parts) (hv : P.built t (parts.map fun (i, x) => (i, a.eval x)).toList = some cs) : (execOp a.eval o).run P W = .ok (.value (.agg cs)) W := by
  unfold execOp
  simp only [ho, Sem.run_bind, run_build W t _ cs hv, Result.andThen_ok, Sem.run_pure]
theorem built_yard (q0 q1 q2 : Nat → Int) (cn : Int) : Try.prog.built 25 [(0, .agg (arr (m7 q0))), (1, .agg (arr (m7 q1))), (2, .agg (arr (m7 q2))), (3, .int .i64 cn)] = some (arr (y22 q0 q1 q2 cn)) := by kernel_rfl
theorem built_yard1 (q0 : Nat → Int) (cn : Int) : Try.prog.built 25 [(0, .agg (arr (m7 q0))), (3, .int .i64 cn)] = some (arr (y22 q0 (fun _ => 0) (fun _ => 0) cn)) := by kernel_rfl
/-- What the yard behind an act holds, if the act could be made. -/
def Made (r : Option (List Int × List Int × List Int)) (q0 q1 q2 : Nat → Int) (cx cn : Int) : Prop := ∀ x, r = some x → q0 = (fun j : Nat => rd x.1 (j : Int)) ∧ q1 = (fun j : Nat => rd x.2.1 (j : Int)) ∧ q2 = (fun j : Nat => rd x.2.2 (j : Int)) ∧ cx = cn
theorem Made.none {q0 q1 q2 : Nat → Int} {cx cn : Int} : Made none q0 q1 q2 cx cn := fun _ h => by cases h
theorem Made.zf {aa bb : Int} (L0 L1 L2 : List Int) {cn : Int} : Made (zfA aa bb (L0, L1, L2)) (fun j : Nat => rd L0 (j : Int)) (fun j : Nat => rd L1 (j : Int)) (fun j : Nat => rd L2 (j : Int)) cn cn := by
  intro x hx
  unfold zfA at hx
  split at hx
  · cases hx
    exact ⟨rfl, rfl, rfl, rfl⟩
  · cases hx
theorem zfA_yes (aa bb : Int) (x : List Int × List Int × List Int) (h : aa = 0) : (zfA aa bb x).isSome = (bb == 0) := by
  by_cases hb : bb = 0 <;> simp [zfA, h, hb]
theorem zfA_no (aa bb : Int) (x : List Int × List Int × List Int) (h : ¬ aa = 0) : (zfA aa bb x).isSome = false := by simp [zfA, h]
theorem below_lower {B B2 : Nat} {w W W2 : World} (h : Below B w W) (hb : Below B2 W W2) (hB : B ≤ B2) : Below B w W2 := ⟨hb.os.trans h.os, hb.tape.trans h.tape, hb.output.trans h.output, Nat.le_trans h.size hb.size, fun k hk => (hb.block k (by omega)).trans (h.block k hk)⟩
theorem below_row1 {B g : Nat} {w0 W : World} (h : Below B w0 W) (hg : B ≤ g) (cs : Array Value) : Below B w0 (W.setRow g cs) := Only.below (W := W) (g := g) ⟨rfl, rfl, rfl, size_setRow W g cs, fun k hk => setRow_other W g k cs hk⟩ h hg
theorem cellsA {w : World} {b e : Nat} {v0 v1 v2 : Value} (h : w.heap[b]? = some (.cells #[v0, v1, v2] e (0, 0))) : w.cell? ⟨b, 0, none⟩ = some v0 ∧ w.cell? ⟨b, 1, none⟩ = some v1 ∧ w.cell? ⟨b, 2, none⟩ = some v2 := by
  refine ⟨?_, ?_, ?_⟩ <;> rw [blk_cell h] <;> rfl
theorem rd_nil_fun : (fun j : Nat => rd ([] : List Int) (j : Int)) = fun _ => 0 := by
  funext j
  simp [rd]
set_option maxHeartbeats 16000000 in
set_option maxRecDepth 100000 in
theorem l12Make_walk (k : Nat) (p0 p1 p2 : Nat → Int) (cn kd aa bb : Int) (r : Option (List Int × List Int × List Int)) (w : World) (h : mkF (spec_l2Back.f k) (spec_OrderAt.f k) (tw p0) (tw p1) (tw p2) kd aa bb = some r) :
    Calls Try.prog 51 #[.agg (arr (y22 p0 p1 p2 cn)), .agg #[.int .i64 kd, .int .i64 aa, .int .i64 bb]] w fun e w' => ∃ (q0 q1 q2 : Nat → Int) (cx : Int), e = .returned (.tuple #[.agg (arr (y22 q0 q1 q2 cx)), .bool r.isSome]) ∧ Made r q0 q1 q2 cx cn ∧ Below w.heap.size w w' := by
  have hu := Try.underlying25
  have hi : (Try.prog.info? 25).map (·.size) = some 22 := by kernel_rfl
  obtain ⟨i0, hi0, _, hsz0, _⟩ := info_parts info3
  have z1 := blk_new w (.cells (arr (y22 p0 p1 p2 cn)) 25)
  have z2 := blk_new (w.alloc (.cells (arr (y22 p0 p1 p2 cn)) 25)) (.cells #[.int .i64 kd, .int .i64 aa, .int .i64 bb] 49)
  have z3 := blk_new ((w.alloc (.cells (arr (y22 p0 p1 p2 cn)) 25)).alloc (.cells #[.int .i64 kd, .int .i64 aa, .int .i64 bb] 49)) (.cells #[.int .i64 0, .int .i64 0, .int .i64 0, .int .i64 0, .int .i64 0, .int .i64 0, .int .i64 0, .int .i64 0, .int .i64 0, .int .i64 0, .int .i64 0, .int .i64 0, .int .i64 0, .int .i64 0, .int .i64 0, .int .i64 0, .int .i64 0, .int .i64 0, .int .i64 0, .int .i64 0, .int .i64 0, .int .i64 0] 25)
  rw [World.size_alloc, World.size_alloc] at z3
  rw [World.size_alloc] at z2
  obtain ⟨w1, hw1⟩ : ∃ w1, w1 = ((w.alloc (.cells (arr (y22 p0 p1 p2 cn)) 25)).alloc (.cells #[.int .i64 kd, .int .i64 aa, .int .i64 bb] 49)).alloc (.cells #[.int .i64 0, .int .i64 0, .int .i64 0, .int .i64 0, .int .i64 0, .int .i64 0, .int .i64 0, .int .i64 0, .int .i64 0, .int .i64 0, .int .i64 0, .int .i64 0, .int .i64 0, .int .i64 0, .int .i64 0, .int .i64 0, .int .i64 0, .int .i64 0, .int .i64 0, .int .i64 0, .int .i64 0, .int .i64 0] 25) := ⟨_, rfl⟩
  have z1' := blk_alloc (blk_alloc z1 (.cells #[.int .i64 kd, .int .i64 aa, .int .i64 bb] 49)) (.cells #[.int .i64 0, .int .i64 0, .int .i64 0, .int .i64 0, .int .i64 0, .int .i64 0, .int .i64 0, .int .i64 0, .int .i64 0, .int .i64 0, .int .i64 0, .int .i64 0, .int .i64 0, .int .i64 0, .int .i64 0, .int .i64 0, .int .i64 0, .int .i64 0, .int .i64 0, .int .i64 0, .int .i64 0, .int .i64 0] 25)
  have z2' := blk_alloc z2 (.cells #[.int .i64 0, .int .i64 0, .int .i64 0, .int .i64 0, .int .i64 0, .int .i64 0, .int .i64 0, .int .i64 0, .int .i64 0, .int .i64 0, .int .i64 0, .int .i64 0, .int .i64 0, .int .i64 0, .int .i64 0, .int .i64 0, .int .i64 0, .int .i64 0, .int .i64 0, .int .i64 0, .int .i64 0, .int .i64 0] 25)
  have HB0 := Aside0.mk (show Below w.heap.size w w1 by rw [hw1]; exact below_alloc (below_alloc (below_alloc (Below.refl _ _) _) _) _)
  have HSZ := Aside0.mk (show w1.heap.size = w.heap.size + 3 by rw [hw1]; simp only [World.size_alloc])
  rw [← hw1] at z1' z2' z3
  have Z1 := Aside0.mk z1'
  have Z2 := Aside0.mk z2'
  have Z3 := Aside0.mk (show w1.heap[w.heap.size + 1 + 1]? = some (.cells (arr (y22 (fun _ => 0) (fun _ => 0) (fun _ => 0) 0)) 25 (0, 0)) from z3)
  have H := Aside0.mk h
  clear z1 z2 z3 z1' z2' h
  go_enter Try.func51, Try.ntmps51
  go_upto_region 1 with fail
  rw [← hw1]
  clear hw1
  go_cut [6, 7, 8] from 12 to 20 (fun v6 v7 v8 wx => ∃ (A0 : Option Addr) (n0 c0 : Nat) (A1 : Option Addr) (n1 c1 : Nat) (A2 : Option Addr) (n2 c2 : Nat) (s1 s2 : Nat), v6 = .slice A0 n0 c0 ∧ v7 = .slice A1 n1 c1 ∧ v8 = .slice A2 n2 c2 ∧ Aside0 (s1 ≤ s2) ∧ Aside0 (Kd.R (Kd.int .i64) 3 wx w1.heap.size (fun k_ => k_ < s1) (.slice A0 n0 c0) (tw p0)) ∧ Aside0 (Kd.R (Kd.int .i64) 3 wx w1.heap.size (fun k_ => s1 ≤ k_ ∧ k_ < s2) (.slice A1 n1 c1) (tw p1)) ∧ Aside0 (Kd.R (Kd.int .i64) 3 wx w1.heap.size (fun k_ => s2 ≤ k_) (.slice A2 n2 c2) (tw p2)) ∧ Aside0 (Below w1.heap.size w1 wx))
  case first =>
    refine wp_region_held_drew (S := (fun W => W.heap[w.heap.size]? = some (.cells (arr (y22 p0 p1 p2 cn)) 25 (0, 0)) ∧ Below w1.heap.size w1 W)) (by kernel_rfl) ⟨Z1.out, below_drew (Below.refl _ _)⟩ (fun hHeld => ?_)
    refine wpAnyH_take (i := 0) (oi := ?oia0) (v := ?va0) ?hia0 (by kernel_rfl) (by kernel_rfl) (by kernel_rfl) ?hQa0 ?hya0 hHeld ?ha0
    case hia0 => (simp only [gAx, gSx, gZx]; rfl)
    case hQa0 => exact fun _ _ _ h => h
    case hya0 => exact Or.inl ⟨by rfl, by intro w_ hSw; (try dsimp only at hSw); first | (go_simp; done) | (go_simp; with_reducible rfl)⟩
    try simp only [Act.put, sAx, sZx, sSx]
    refine wpAnyH_take (i := 1) (oi := ?oia1) (v := (.agg (arr (m7 p0)))) ?hia1 (by kernel_rfl) (by kernel_rfl) (by kernel_rfl) ?hQa1 ?hya1 hHeld ?ha1
    case hia1 => (simp only [gAx, gSx, gZx]; rfl)
    case hQa1 => exact fun _ _ _ h => h
    case hya1 => exact Or.inl ⟨by rfl, fun w_ hSw => execLoad (addr := .pointer (some ⟨w.heap.size, 0, none⟩)) (v := .agg (arr (m7 p0))) rfl rfl (load7 (by have h_ := hSw.1; rw [y22_0] at h_; exact h_) (by rfl))⟩
    try simp only [Act.put, sAx, sZx, sSx]
    refine wpAnyH_take (i := 3) (oi := ?oia3) (v := ?va3) ?hia3 (by kernel_rfl) (by kernel_rfl) (by kernel_rfl) ?hQa3 ?hya3 hHeld ?ha3
    case hia3 => (simp only [gAx, gSx, gZx]; rfl)
    case hQa3 => exact fun _ _ _ h => h
    case hya3 => exact Or.inl ⟨by rfl, by intro w_ hSw; (try dsimp only at hSw); first | (go_simp; done) | (go_simp; with_reducible rfl)⟩
    try simp only [Act.put, sAx, sZx, sSx]
    refine wpAnyH_take (i := 4) (oi := ?oia4) (v := (.agg (arr (m7 p1)))) ?hia4 (by kernel_rfl) (by kernel_rfl) (by kernel_rfl) ?hQa4 ?hya4 hHeld ?ha4
    case hia4 => (simp only [gAx, gSx, gZx]; rfl)
    case hQa4 => exact fun _ _ _ h => h
    case hya4 => exact Or.inl ⟨by rfl, fun w_ hSw => execLoad (addr := .pointer (some ⟨w.heap.size, 7, none⟩)) (v := .agg (arr (m7 p1))) rfl rfl (load7 (by have h_ := hSw.1; rw [y22_1] at h_; exact h_) (by rfl))⟩
    try simp only [Act.put, sAx, sZx, sSx]
    refine wpAnyH_take (i := 6) (oi := ?oia6) (v := ?va6) ?hia6 (by kernel_rfl) (by kernel_rfl) (by kernel_rfl) ?hQa6 ?hya6 hHeld ?ha6
    case hia6 => (simp only [gAx, gSx, gZx]; rfl)
    case hQa6 => exact fun _ _ _ h => h
    case hya6 => exact Or.inl ⟨by rfl, by intro w_ hSw; (try dsimp only at hSw); first | (go_simp; done) | (go_simp; with_reducible rfl)⟩
    try simp only [Act.put, sAx, sZx, sSx]
    refine wpAnyH_take (i := 7) (oi := ?oia7) (v := (.agg (arr (m7 p2)))) ?hia7 (by kernel_rfl) (by kernel_rfl) (by kernel_rfl) ?hQa7 ?hya7 hHeld ?ha7
    case hia7 => (simp only [gAx, gSx, gZx]; rfl)
    case hQa7 => exact fun _ _ _ h => h
    case hya7 => exact Or.inl ⟨by rfl, fun w_ hSw => execLoad (addr := .pointer (some ⟨w.heap.size, 14, none⟩)) (v := .agg (arr (m7 p2))) rfl rfl (load7 (by have h_ := hSw.1; rw [y22_2] at h_; exact h_) (by rfl))⟩
    try simp only [Act.put, sAx, sZx, sSx]
    refine wpAnyH_ready (rs := [2]) (by kernel_rfl) (by simp) ?_
    refine AllReadyH.cons (o := ?ocb2) ?hcb2 (fun K hK => ?hkb2) AllReadyH.nil
    case hcb2 => (simp only [gAx, gSx, gZx]; rfl)
    go_simp
    go_at_call 40
    refine (l12Part_walk p0 _).mono ?_
    rintro e w_0 ⟨v_0, rfl, ho0, hb0⟩
    obtain ⟨A_0, c_0, e_0⟩ := Kd.R_slice ho0
    subst e_0
    have hlt0 := hHeld.2.size
    try dsimp only
    refine hK.out _ _ ⟨(hb0.block _ (lt_of_block (hHeld.1))).trans (hHeld.1), below_step (hHeld.2) hb0⟩ (fun hHeld => ?_)
    clear hK K
    try simp only [Act.put, sAx, sZx, sSx]
    refine wpAnyH_ready (rs := [5]) (by kernel_rfl) (by simp) ?_
    refine AllReadyH.cons (o := ?ocb5) ?hcb5 (fun K hK => ?hkb5) AllReadyH.nil
    case hcb5 => (simp only [gAx, gSx, gZx]; rfl)
    go_simp
    go_at_call 40
    refine (l12Part_walk p1 _).mono ?_
    rintro e w_1 ⟨v_1, rfl, ho1, hb1⟩
    obtain ⟨A_1, c_1, e_1⟩ := Kd.R_slice ho1
    subst e_1
    have hlt1 := hHeld.2.size
    try dsimp only
    refine hK.out _ _ ⟨(hb1.block _ (lt_of_block (hHeld.1))).trans (hHeld.1), below_step (hHeld.2) hb1⟩ (fun hHeld => ?_)
    clear hK K
    try simp only [Act.put, sAx, sZx, sSx]
    refine wpAnyH_ready (rs := [8]) (by kernel_rfl) (by simp) ?_
    refine AllReadyH.cons (o := ?ocb8) ?hcb8 (fun K hK => ?hkb8) AllReadyH.nil
    case hcb8 => (simp only [gAx, gSx, gZx]; rfl)
    go_simp
    go_at_call 40
    refine (l12Part_walk p2 _).mono ?_
    rintro e w_2 ⟨v_2, rfl, ho2, hb2⟩
    obtain ⟨A_2, c_2, e_2⟩ := Kd.R_slice ho2
    subst e_2
    have hlt2 := hHeld.2.size
    try dsimp only
    refine hK.out _ _ ⟨(hb2.block _ (lt_of_block (hHeld.1))).trans (hHeld.1), below_step (hHeld.2) hb2⟩ (fun hHeld => ?_)
    clear hK K
    try simp only [Act.put, sAx, sZx, sSx]
    refine wpAnyH_take (i := 9) (oi := ?oib9) (v := ?vb9) ?hib9 (by kernel_rfl) (by kernel_rfl) (by kernel_rfl) ?hQb9 ?hyb9 hHeld ?hb9
    case hib9 => (simp only [gAx, gSx, gZx]; rfl)
    case hQb9 => exact fun _ _ _ h => h
    case hyb9 => exact Or.inl ⟨by rfl, by intro w_ hSw; (try dsimp only at hSw); first | (go_simp; done) | (go_simp; with_reducible rfl)⟩
    try simp only [Act.put, sAx, sZx, sSx]
    refine wpAnyH_take (i := 10) (oi := ?oib10) (v := ?vb10) ?hib10 (by kernel_rfl) (by kernel_rfl) (by kernel_rfl) ?hQb10 ?hyb10 hHeld ?hb10
    case hib10 => (simp only [gAx, gSx, gZx]; rfl)
    case hQb10 => exact fun _ _ _ h => h
    case hyb10 => exact Or.inl ⟨by rfl, by intro w_ hSw; (try dsimp only at hSw); first | (go_simp; done) | (go_simp; with_reducible rfl)⟩
    try simp only [Act.put, sAx, sZx, sSx]
    refine wpAnyH_take (i := 11) (oi := ?oib11) (v := ?vb11) ?hib11 (by kernel_rfl) (by kernel_rfl) (by kernel_rfl) ?hQb11 ?hyb11 hHeld ?hb11
    case hib11 => (simp only [gAx, gSx, gZx]; rfl)
    case hQb11 => exact fun _ _ _ h => h
    case hyb11 => exact Or.inl ⟨by rfl, by intro w_ hSw; (try dsimp only at hSw); first | (go_simp; done) | (go_simp; with_reducible rfl)⟩
    try simp only [Act.put, sAx, sZx, sSx]
    refine wpAnyH_done (by kernel_rfl) ?_ _
    go_wp2_with (fail)
    go_meet
    case rel =>
      exact ⟨A_0, _, c_0, A_1, _, c_1, A_2, _, c_2, w_0.heap.size, w_1.heap.size, rfl, rfl, rfl, ⟨hb1.size⟩, ⟨Kd.R_lower (Kd.R_mono (Kd.R_below (Kd.R_below (Kd.R_bound ho0) hb1) hb2) (fun k_ hk => hk.2.2.1)) hlt0⟩, ⟨Kd.R_lower (Kd.R_mono (Kd.R_below (Kd.R_bound ho1) hb2) (fun k_ hk => ⟨hk.2.1, hk.2.2.1⟩)) hlt1⟩, ⟨Kd.R_lower (Kd.R_mono (Kd.R_bound ho2) (fun k_ hk => hk.2.1)) hlt2⟩, ⟨hHeld.2⟩⟩
  case rest =>
    obtain ⟨A0, n0, c0, A1, n1, c1, A2, n2, c2, s1, s2, rfl, rfl, rfl, HS12, HR0, HR1, HR2, HBC⟩ := hcut
    have Y1 := Aside0.mk ((HBC.out.block _ (lt_of_block Z1.out)).trans Z1.out)
    have Y2 := Aside0.mk ((HBC.out.block _ (lt_of_block Z2.out)).trans Z2.out)
    have Y3 := Aside0.mk ((HBC.out.block _ (lt_of_block Z3.out)).trans Z3.out)
    have q21 := y22_3 Y1.out
    obtain ⟨q20, q22, q23⟩ := cellsA Y2.out
    have HBW := Aside0.mk (below_step HB0.out HBC.out)
    have HN0 := Aside0.mk (Kd.R_reads' HR0.out)
    have HN1 := Aside0.mk (Kd.R_reads' HR1.out)
    have HN2 := Aside0.mk (Kd.R_reads' HR2.out)
    have HL0 := Aside0.mk (tw_len p0)
    have HL1 := Aside0.mk (tw_len p1)
    have HL2 := Aside0.mk (tw_len p2)
    generalize tw p0 = L0 at *
    generalize tw p1 = L1 at *
    generalize tw p2 = L2 at *
    clear Z1 Z2 Z3
    obtain ⟨wa, rfl⟩ : ∃ wa, wa = wc := ⟨_, rfl⟩
    obtain rfl := HN0.out.1
    obtain rfl := HN1.out.1
    obtain rfl := HN2.out.1
    have hlm1 := HL1.out
    obtain ⟨ji, hji⟩ : ∃ ji : Int, (L1.length : Int) - 1 = ji := ⟨_, rfl⟩
    go_upto_block 0 with fail
    have HJ := Aside0.mk hji
    clear hji hlm1
    go_cut [6, 7, 8] from 24 to 88 (fun v6 v7 v8 wx => ∃ (A0 : Option Addr) (n0 c0 : Nat) (A1 : Option Addr) (n1 c1 : Nat) (A2 : Option Addr) (n2 c2 : Nat) (l0 l1 l2 : List Int), v6 = .slice A0 n0 c0 ∧ v7 = .slice A1 n1 c1 ∧ v8 = .slice A2 n2 c2 ∧ Aside0 (r = zfA aa bb (l0, l1, l2)) ∧ Aside0 (RowS w1.heap.size wx A0 n0 c0 l0) ∧ Aside0 (RowS w1.heap.size wx A1 n1 c1 l1) ∧ Aside0 (RowS w1.heap.size wx A2 n2 c2 l2) ∧ Aside0 (Below w1.heap.size wa wx))
    case first =>
      have h := H.out
      clear H
      by_cases e1 : kd = 1
      · subst e1
        simp only [mkF, ↓reduceIte] at h
        have hr := Option.some.inj h
        clear h
        have hl0 := HL0.out
        by_cases z0 : L0.length = 0
        · rw [if_pos z0] at hr
          have dz : ((L0.length : Int) == 0) = true := beq_iff_eq.mpr (by omega)
          go_wp2_with (first
            | ((with_reducible refine gate_dst (N := 32) rfl ?_); refine load_row_event rfl 25 (.tmp 2) rfl w.heap.size rfl 25 (arr (y22 p0 p1 p2 cn)) _ Y1.out hu rfl hi ?_)
            | ((with_reducible refine gate_store (t := 25) (p := 4) rfl ?_); refine store_row_event rfl rfl 25 (.tmp 4) (.tmp 32) rfl (w.heap.size + 1 + 1) (arr (y22 p0 p1 p2 cn)) rfl rfl 25 _ Y3.out hi rfl (by kernel_rfl) ?_; intro wz hh ho; have HEND := Aside0.mk hh; have hbend := Aside0.mk (ho.below HBW.out (by omega)); clear hh ho))
          refine bodyPost_ret (v := .tuple #[.agg (arr (y22 p0 p1 p2 cn)), .bool false]) ?_ rfl ?_
          · exact results_list (rs := [.cell 4 25, .tmp 5]) rfl (by simp) (.cell (w.heap.size + 1 + 1) 25 (arr (y22 p0 p1 p2 cn)) (0, 0) _ rfl HEND.out hu rfl (by kernel_rfl) (.tmp .nil))
          · subst hr
            exact ⟨p0, p1, p2, cn, rfl, Made.none, hbend.out⟩
        · rw [if_neg z0] at hr
          obtain ⟨g, cp, ev, _, _, _⟩ := Kd.R_form HR0.out (by omega)
          cases ev
          obtain ⟨ad, e1, hx0⟩ := Kd.at_int HN0.out.2.2 0 (by omega) (by omega)
          cases e1
          rw [show (0 : Int).toNat = 0 from rfl, show (⟨g, 0, none⟩ : Addr).add 0 = ⟨g, 0, none⟩ from rfl] at hx0
          have d0 : ((L0.length : Int) == 0) = false := beq_eq_false_iff_ne.mpr (by omega)
          go_wp2_with (first
            | ((with_reducible refine gate_builtin (b := .append) (xs := #[.tmp 33, .tmp 37]) rfl ?_); at_builtin; refine Kd.R_append (Kd.int .i64) (w0 := wa) w1.heap.size rfl (.tmp 33) (.tmp 37) 22 3 (.int .i64 0) 8 rfl Try.underlying22 info3 rfl (by decide) (by omega) (.slice A1 L1.length c1) L1 (rd L0 0) [.int .i64 (rd L0 0)] (fun _ => True) (fun _ => False) rfl rfl ?aP (fun _ hk => hk.elim) ?aF ?aO ?aB ?aS ?aL ?_; (case aP => exact rfl); (case aB => exact (Below.refl _ _)); (case aF => exact (fun _ _ => trivial)); (case aO => exact Kd.R_mono HR1.out (fun _ _ => trivial)); (case aS => exact HBC.out.size); (case aL => have := HL1.out; have := HL2.out; omega); intro v8 w8 ho hb hg hat; obtain ⟨ly, hly⟩ : ∃ ly, ly = L1 ++ [rd L0 0] := ⟨_, rfl⟩; rw [← hly] at ho; have HLY := Aside0.mk hly; obtain ⟨A8, c8, e8⟩ := Kd.R_slice ho; subst e8; have HV8 := Aside0.mk ho; have HB8 := Aside0.mk hb; have HG8 := Aside0.mk hg; clear ho hb hg hat hly))
          all_goals go_meet
          all_goals
            have hly := HLY.out
            refine ⟨_, _, _, _, _, _, _, _, _, L0.drop 1, ly, L2, rfl, rfl, rfl, ⟨?_⟩, ⟨?_⟩, ⟨RowS.of HV8.out (Nat.le_refl _)⟩, ⟨RowS.of (row_apart HR1.out HR2.out HG8.out (fun k_ h1_ h2_ => by have := HS12.out; omega)) (Nat.le_refl w1.heap.size)⟩, HB8⟩
            · rw [← hr, hly]
            · exact RowS.drop2 (RowS.of (row_apart HR1.out HR0.out HG8.out (fun k_ h1_ h2_ => by have := HS12.out; omega)) (Nat.le_refl _)) (by omega) _ _ (by first | exact fun _ => ⟨rfl, rfl⟩ | exact fun h_ => absurd h_ (by assumption) | exact fun h_ => absurd (by assumption) h_) (by first | exact fun _ => ⟨rfl, rfl⟩ | exact fun h_ => absurd h_ (by assumption) | exact fun h_ => absurd (by assumption) h_)
      by_cases e2 : kd = 2
      · subst e2
        simp only [mkF, show ¬ (2 : Int) = 1 from by decide, ↓reduceIte] at h
        have hr := Option.some.inj h
        clear h
        have hl1 := HL1.out
        have hji := HJ.out
        by_cases z0 : L1.length = 0
        · rw [if_pos z0] at hr
          have dz : decide (ji < 0) = true := decide_eq_true (by omega)
          have dj : ji < 0 := by omega
          clear hji
          go_wp2_with (first
            | ((with_reducible refine gate_dst (N := 45) rfl ?_); refine load_row_event rfl 25 (.tmp 2) rfl w.heap.size rfl 25 (arr (y22 p0 p1 p2 cn)) _ Y1.out hu rfl hi ?_)
            | ((with_reducible refine gate_store (t := 25) (p := 4) rfl ?_); refine store_row_event rfl rfl 25 (.tmp 4) (.tmp 45) rfl (w.heap.size + 1 + 1) (arr (y22 p0 p1 p2 cn)) rfl rfl 25 _ Y3.out hi rfl (by kernel_rfl) ?_; intro wz hh ho; have HEND := Aside0.mk hh; have hbend := Aside0.mk (ho.below HBW.out (by omega)); clear hh ho))
          refine bodyPost_ret (v := .tuple #[.agg (arr (y22 p0 p1 p2 cn)), .bool false]) ?_ rfl ?_
          · exact results_list (rs := [.cell 4 25, .tmp 5]) rfl (by simp) (.cell (w.heap.size + 1 + 1) 25 (arr (y22 p0 p1 p2 cn)) (0, 0) _ rfl HEND.out hu rfl (by kernel_rfl) (.tmp .nil))
          · subst hr
            exact ⟨p0, p1, p2, cn, rfl, Made.none, hbend.out⟩
        · rw [if_neg z0] at hr
          have j0 : 0 ≤ ji := by omega
          have j1 : ji < (L1.length : Int) := by omega
          have hjn : ji.toNat = L1.length - 1 := by omega
          have hcap := HN1.out.2.1
          have j2 : ji ≤ (c1 : Int) := by omega
          have dj : decide (ji < 0) = false := decide_eq_false (by omega)
          obtain ⟨ad, e1, hx0⟩ := Kd.at_int HN1.out.2.2 ji j0 j1
          cases e1
          have HJN := Aside0.mk hjn
          clear hji hjn
          go_wp2_with (first
            | ((with_reducible refine gate_builtin (b := .append) (xs := #[.tmp 46, .tmp 51]) rfl ?_); at_builtin; refine Kd.R_append (Kd.int .i64) (w0 := wa) w1.heap.size rfl (.tmp 46) (.tmp 51) 22 3 (.int .i64 0) 8 rfl Try.underlying22 info3 rfl (by decide) (by omega) (.slice A2 L2.length c2) L2 (rd L1 ji) [.int .i64 (rd L1 ji)] (fun _ => True) (fun _ => False) rfl rfl ?aP (fun _ hk => hk.elim) ?aF ?aO ?aB ?aS ?aL ?_; (case aP => exact rfl); (case aB => exact (Below.refl _ _)); (case aF => exact (fun _ _ => trivial)); (case aO => exact Kd.R_mono HR2.out (fun _ _ => trivial)); (case aS => exact HBC.out.size); (case aL => have := HL1.out; have := HL2.out; omega); intro v8 w8 ho hb hg hat; obtain ⟨ly, hly⟩ : ∃ ly, ly = L2 ++ [rd L1 ji] := ⟨_, rfl⟩; rw [← hly] at ho; have HLY := Aside0.mk hly; obtain ⟨A8, c8, e8⟩ := Kd.R_slice ho; subst e8; have HV8 := Aside0.mk ho; have HB8 := Aside0.mk hb; have HG8 := Aside0.mk hg; clear ho hb hg hat hly))
          go_meet
          case rel =>
            have hly := HLY.out
            have hjn := HJN.out
            refine ⟨_, _, _, _, _, _, _, _, _, L0, L1.take (L1.length - 1), ly, rfl, rfl, rfl, ⟨?_⟩, ⟨RowS.of (row_apart HR2.out HR0.out HG8.out (fun k_ h1_ h2_ => by have := HS12.out; omega)) (Nat.le_refl _)⟩, ⟨?_⟩, ⟨RowS.of HV8.out (Nat.le_refl _)⟩, HB8⟩
            · rw [← hr, hly, HJ.out]
            · rw [hjn]; exact RowS.take (RowS.of (row_apart HR2.out HR1.out HG8.out (fun k_ h1_ h2_ => by have := HS12.out; omega)) (Nat.le_refl _)) (by omega)
      by_cases e3 : kd = 3
      · subst e3
        simp only [mkF, show ¬ (3 : Int) = 1 from by decide, show ¬ (3 : Int) = 2 from by decide, ↓reduceIte] at h
        have hr := Option.some.inj h
        clear h
        have hl1 := HL1.out
        have hl0 := HL0.out
        have hji := HJ.out
        by_cases z0 : L1.length = 0
        · rw [if_pos z0] at hr
          have dz : decide (ji < 0) = true := decide_eq_true (by omega)
          have dj : ji < 0 := by omega
          clear hji
          go_wp2_with (first
            | ((with_reducible refine gate_dst (N := 60) rfl ?_); refine load_row_event rfl 25 (.tmp 2) rfl w.heap.size rfl 25 (arr (y22 p0 p1 p2 cn)) _ Y1.out hu rfl hi ?_)
            | ((with_reducible refine gate_store (t := 25) (p := 4) rfl ?_); refine store_row_event rfl rfl 25 (.tmp 4) (.tmp 60) rfl (w.heap.size + 1 + 1) (arr (y22 p0 p1 p2 cn)) rfl rfl 25 _ Y3.out hi rfl (by kernel_rfl) ?_; intro wz hh ho; have HEND := Aside0.mk hh; have hbend := Aside0.mk (ho.below HBW.out (by omega)); clear hh ho))
          refine bodyPost_ret (v := .tuple #[.agg (arr (y22 p0 p1 p2 cn)), .bool false]) ?_ rfl ?_
          · exact results_list (rs := [.cell 4 25, .tmp 5]) rfl (by simp) (.cell (w.heap.size + 1 + 1) 25 (arr (y22 p0 p1 p2 cn)) (0, 0) _ rfl HEND.out hu rfl (by kernel_rfl) (.tmp .nil))
          · subst hr
            exact ⟨p0, p1, p2, cn, rfl, Made.none, hbend.out⟩
        · rw [if_neg z0] at hr
          have j0 : 0 ≤ ji := by omega
          have j1 : ji < (L1.length : Int) := by omega
          have hjn : ji.toNat = L1.length - 1 := by omega
          have hcap := HN1.out.2.1
          have j2 : ji ≤ (c1 : Int) := by omega
          have dj : decide (ji < 0) = false := decide_eq_false (by omega)
          obtain ⟨ad, e1, hx0⟩ := Kd.at_int HN1.out.2.2 ji j0 j1
          cases e1
          have HJN := Aside0.mk hjn
          clear hji hjn
          go_wp2_with (first
            | ((with_reducible refine gate_dst (N := 65) rfl ?_); refine Kd.R_lit (Kd.int .i64) (w0 := wa) wa.heap.size 3 ?hg (N := 65) ?hd (xs := [rd L1 ji]) (inner := [.int .i64 (rd L1 ji)]) (ok := fun _ => True) (okp := fun _ => True) ?hr ?hp (fun _ hk => hk) trivial (Below.refl _ _) (Nat.le_refl _) (by simp) ?_; (case hd => rfl); (case hg => rfl); (case hr => first | (go_simp; done) | (go_simp; rfl)); (case hp => exact Kd.reps_scalar _); intro v7 w7 ho hb hg_ hnew_; obtain ⟨lx, hlx⟩ : ∃ lx, lx = [rd L1 ji] := ⟨_, rfl⟩; rw [← hlx] at ho; have HLX := Aside0.mk hlx; obtain ⟨A7, c7, e7⟩ := Kd.R_slice ho; subst e7; have HV7 := Aside0.mk ho; have HB7 := Aside0.mk hb; clear ho hb hg_ hnew_ hlx)
            | ((with_reducible refine gate_builtin (b := .append) (xs := #[.tmp 65, .tmp 66]) rfl ?_); at_builtin; refine Kd.R_append_rows (Kd.int .i64) (w0 := wa) wa.heap.size rfl (.tmp 65) (.tmp 66) 22 3 (.int .i64 0) 8 rfl Try.underlying22 info3 rfl (by decide) (by omega) _ lx L0 _ _ _ (fun _ => True) (fun _ => False) rfl rfl ?aO ?aR (fun _ _ h => h) (fun _ h => h.elim) ?aF ?aB ?aS ?aL ?_; (case aR => exact Kd.C_below HN0.out.2.2 HB7.out); (case aB => exact HB7.out); (case aF => exact fun _ _ => trivial); (case aO => exact HV7.out); (case aS => exact HB7.out.size); (case aL => have h1_ := HL0.out; have h2_ := HLX.out; subst h2_; simp; omega); intro v8 w8 ho hb hg hat; obtain ⟨ly, hly⟩ : ∃ ly, ly = lx ++ L0 := ⟨_, rfl⟩; rw [← hly] at ho; have HLY := Aside0.mk hly; obtain ⟨A8, c8, e8⟩ := Kd.R_slice ho; subst e8; have HV8 := Aside0.mk ho; have HB8 := Aside0.mk hb; clear ho hb hg hat hly))
          go_meet
          case rel =>
            have hly := HLY.out
            have hjn := HJN.out
            refine ⟨_, _, _, _, _, _, _, _, _, ly, L1.take (L1.length - 1), L2, rfl, rfl, rfl, ⟨?_⟩, ⟨RowS.of HV8.out HBC.out.size⟩, ⟨?_⟩, ⟨RowS.of (Kd.R_below HR2.out HB8.out) (Nat.le_refl _)⟩, ⟨below_lower (Below.refl _ _) HB8.out HBC.out.size⟩⟩
            · rw [← hr, hly, HLX.out, HJ.out]
            · rw [hjn]; exact RowS.take (RowS.of (Kd.R_below HR1.out HB8.out) (Nat.le_refl _)) (by omega)
      by_cases e4 : kd = 4
      · subst e4
        simp only [mkF, show ¬ (4 : Int) = 1 from by decide, show ¬ (4 : Int) = 2 from by decide, show ¬ (4 : Int) = 3 from by decide, ↓reduceIte] at h
        obtain ⟨b, hbk, h⟩ := Option.bind_eq_some_iff.1 h
        have hr := Option.some.inj h
        have HBK := Aside0.mk hbk
        clear h hbk
        have hl0 := HL0.out
        by_cases z0 : L0.length < 2
        · rw [if_pos z0] at hr
          have dz : decide ((L0.length : Int) < 2) = true := decide_eq_true (by omega)
          have dj : (L0.length : Int) < 2 := by omega
          go_wp2_with (first
            | ((with_reducible refine gate_dst (N := 76) rfl ?_); refine load_row_event rfl 25 (.tmp 2) rfl w.heap.size rfl 25 (arr (y22 p0 p1 p2 cn)) _ Y1.out hu rfl hi ?_)
            | ((with_reducible refine gate_store (t := 25) (p := 4) rfl ?_); refine store_row_event rfl rfl 25 (.tmp 4) (.tmp 76) rfl (w.heap.size + 1 + 1) (arr (y22 p0 p1 p2 cn)) rfl rfl 25 _ Y3.out hi rfl (by kernel_rfl) ?_; intro wz hh ho; have HEND := Aside0.mk hh; have hbend := Aside0.mk (ho.below HBW.out (by omega)); clear hh ho))
          refine bodyPost_ret (v := .tuple #[.agg (arr (y22 p0 p1 p2 cn)), .bool false]) ?_ rfl ?_
          · exact results_list (rs := [.cell 4 25, .tmp 5]) rfl (by simp) (.cell (w.heap.size + 1 + 1) 25 (arr (y22 p0 p1 p2 cn)) (0, 0) _ rfl HEND.out hu rfl (by kernel_rfl) (.tmp .nil))
          · subst hr
            exact ⟨p0, p1, p2, cn, rfl, Made.none, hbend.out⟩
        · rw [if_neg z0] at hr
          have dj : decide ((L0.length : Int) < 2) = false := decide_eq_false (by omega)
          have dz : ¬ (L0.length : Int) < 2 := by omega
          go_wp2_with (first
            | (go_at_call 59; (refine (spec_l2Back.calls k A0 c0 L0 b _ HN0.out.2.2 HN0.out.2.1 HBK.out).mono ?_); rintro e w8 ⟨v8, rfl, ho, hb⟩; obtain ⟨A8, c8, e8⟩ := Kd.R_slice ho; subst e8; have HV8 := Aside0.mk ho; have HB8 := Aside0.mk hb; clear ho hb))
          go_meet
          case rel =>
            refine ⟨_, _, _, _, _, _, _, _, _, b, L1, L2, rfl, rfl, rfl, ⟨hr.symm⟩, ⟨RowS.of HV8.out HBC.out.size⟩, ⟨RowS.of (Kd.R_below HR1.out HB8.out) (Nat.le_refl _)⟩, ⟨RowS.of (Kd.R_below HR2.out HB8.out) (Nat.le_refl _)⟩, ⟨below_lower (Below.refl _ _) HB8.out HBC.out.size⟩⟩
      by_cases e5 : kd = 5
      · subst e5
        simp only [mkF, show ¬ (5 : Int) = 1 from by decide, show ¬ (5 : Int) = 2 from by decide, show ¬ (5 : Int) = 3 from by decide, show ¬ (5 : Int) = 4 from by decide, ↓reduceIte] at h
        obtain ⟨⟨o1, o2⟩, hbk, h⟩ := Option.bind_eq_some_iff.1 h
        have hr := Option.some.inj h
        have HBK := Aside0.mk hbk
        clear h hbk
        cases o2
        · go_upto_region 26 with (first
            | (go_at_call 60; (refine (spec_OrderAt.calls k aa bb o1 false _ HBK.out).mono ?_); rintro e w8 ⟨v8, rfl, ho, hb⟩; obtain ⟨A8, c8, e8⟩ := Kd.R_slice ho; subst e8; have HV8 := Aside0.mk ho; have HB8 := Aside0.mk hb; clear ho hb))
          have RS0 := Aside0.mk (RowS.of HV8.out HBC.out.size)
          have HBY := Aside0.mk (below_lower (Below.refl _ _) HB8.out HBC.out.size)
          have V1 := Aside0.mk ((HBY.out.block _ (by have := HSZ.out; omega)).trans Y1.out)
          have V2 := Aside0.mk ((HBY.out.block _ (by have := HSZ.out; omega)).trans Y2.out)
          have V3 := Aside0.mk ((HBY.out.block _ (by have := HSZ.out; omega)).trans Y3.out)
          have BW8 := Aside0.mk (below_lower HBW.out HBY.out (by have := HSZ.out; omega))
          refine wp_region_held_drew (S := (fun W => W.heap[w.heap.size]? = some (.cells (arr (y22 p0 p1 p2 cn)) 25 (0, 0)) ∧ W.heap[w.heap.size + 1]? = some (.cells #[.int .i64 5, .int .i64 aa, .int .i64 bb] 49 (0, 0)) ∧ (∃ old : Array Value, W.heap[w.heap.size + 1 + 1]? = some (.cells old 25 (0, 0)) ∧ old.size = 22) ∧ Below w.heap.size w W ∧ Stays w1.heap.size w8 W)) (by kernel_rfl) ⟨V1.out, V2.out, ⟨_, V3.out, rfl⟩, below_drew BW8.out, Nat.le_refl _, fun _ _ _ => rfl⟩ (fun hHeld => ?_)
          refine wpAnyH_take (i := 0) (oi := ?oisf0) (v := ?vsf0) ?hisf0 (by kernel_rfl) (by kernel_rfl) (by kernel_rfl) ?hQsf0 ?hysf0 hHeld ?hsf0
          case hisf0 => (simp only [gAx, gSx, gZx]; rfl)
          case hQsf0 => exact fun _ _ _ h => h
          case hysf0 => exact Or.inl ⟨by rfl, by intro w_ hSw; (try dsimp only at hSw); first | (go_simp; done) | (go_simp; with_reducible rfl)⟩
          try simp only [Act.put, sAx, sZx, sSx]
          refine wpAnyH_take (i := 2) (oi := ?oisf2) (v := ?vsf2) ?hisf2 (by kernel_rfl) (by kernel_rfl) (by kernel_rfl) ?hQsf2 ?hysf2 hHeld ?hsf2
          case hisf2 => (simp only [gAx, gSx, gZx]; rfl)
          case hQsf2 => exact fun _ _ _ h => h
          case hysf2 => exact Or.inl ⟨by rfl, by intro w_ hSw; (try dsimp only at hSw); first | (go_simp; done) | (go_simp; with_reducible rfl)⟩
          try simp only [Act.put, sAx, sZx, sSx]
          refine wpAnyH_take (i := 3) (oi := ?oisf3) (v := (.int .i64 cn)) ?hisf3 (by kernel_rfl) (by kernel_rfl) (by kernel_rfl) ?hQsf3 ?hysf3 hHeld ?hsf3
          case hisf3 => (simp only [gAx, gSx, gZx]; rfl)
          case hQsf3 => exact fun _ _ _ h => h
          case hysf3 => exact Or.inl ⟨by rfl, by intro w_ hSw; have h_ := y22_3 hSw.1; first | (go_simp; done) | (go_simp; with_reducible rfl)⟩
          try simp only [Act.put, sAx, sZx, sSx]
          refine wpAnyH_take (i := 5) (oi := ?oisf5) (v := ?vsf5) ?hisf5 (by kernel_rfl) (by kernel_rfl) (by kernel_rfl) ?hQsf5 ?hysf5 hHeld ?hsf5
          case hisf5 => (simp only [gAx, gSx, gZx]; rfl)
          case hQsf5 => exact fun _ _ _ h => h
          case hysf5 => exact Or.inl ⟨by rfl, by intro w_ hSw; (try dsimp only at hSw); first | (go_simp; done) | (go_simp; with_reducible rfl)⟩
          try simp only [Act.put, sAx, sZx, sSx]
          refine wpAnyH_ready (rs := [1]) (by kernel_rfl) (by simp) ?_
          refine AllReadyH.cons (o := ?ocsf1) ?hcsf1 (fun K hK => ?hksf1) AllReadyH.nil
          case hcsf1 => (simp only [gAx, gSx, gZx]; rfl)
          go_simp
          go_at_call 33
          refine (arrayS _ _ _ _ _ w8 _ RS0.out hHeld.2.2.2.2).mono ?_
          rintro e w_9 ⟨rfl, hb9⟩
          try dsimp only
          refine hK.out _ _ ⟨(hb9.block _ (lt_of_block (hHeld.1))).trans (hHeld.1), (hb9.block _ (lt_of_block (hHeld.2.1))).trans (hHeld.2.1), ⟨hHeld.2.2.1.choose, (hb9.block _ (lt_of_block (hHeld.2.2.1.choose_spec.1))).trans (hHeld.2.2.1.choose_spec.1), hHeld.2.2.1.choose_spec.2⟩, below_step hHeld.2.2.2.1 hb9, hHeld.2.2.2.2.below hb9⟩ (fun hHeld => ?_)
          clear hK K
          try simp only [Act.put, sAx, sZx, sSx]
          refine wpAnyH_take (i := 4) (oi := ?oisf4) (v := (.agg (arr (y22 (fun j : Nat => rd o1 (j : Int)) (fun _ => 0) (fun _ => 0) cn)))) ?hisf4 (by kernel_rfl) (by kernel_rfl) (by kernel_rfl) ?hQsf4 ?hysf4 hHeld ?hsf4
          case hisf4 => (simp only [gAx, gSx, gZx]; rfl)
          case hQsf4 => exact fun _ _ _ h => h
          case hysf4 => exact Or.inl ⟨by rfl, fun w_ hSw => execBuild rfl (by (try simp only [List.map_toArray, List.map_cons, List.map_nil]); go_simp; exact built_yard1 _ _)⟩
          try simp only [Act.put, sAx, sZx, sSx]
          refine wpAnyH_ready (rs := [6]) (by kernel_rfl) (by simp) ?_
          refine AllReadyH.cons (o := ?ocsf6) ?hcsf6 (fun K hK => ?hksf6) AllReadyH.nil
          case hcsf6 => (simp only [gAx, gSx, gZx]; rfl)
          obtain ⟨old, hold, hsz⟩ := hHeld.2.2.1
          rw [if_pos (by rfl)]
          refine wp_store_row 25 (.tmp 4) (.tmp 93) rfl (w.heap.size + 1 + 1) (arr (y22 (fun j : Nat => rd o1 (j : Int)) (fun _ => 0) (fun _ => 0) cn)) rfl rfl 25 old hold hi hsz (by kernel_rfl) ?_
          refine hK.out _ _ ⟨(setRow_other _ _ _ _ (by omega)).trans hHeld.1, (setRow_other _ _ _ _ (by omega)).trans hHeld.2.1, ⟨(arr (y22 (fun j : Nat => rd o1 (j : Int)) (fun _ => 0) (fun _ => 0) cn)), setRow_heap _ _ _ _ _ _ hold, rfl⟩, below_row1 hHeld.2.2.2.1 (by omega) _, ⟨by rw [size_setRow]; exact hHeld.2.2.2.2.1, fun k_ h1_ h2_ => (setRow_other _ _ _ _ (by have := HSZ.out; omega)).trans (hHeld.2.2.2.2.2 k_ h1_ h2_)⟩⟩ (fun hHeld2 => ?_)
          have HEND := Aside0.mk (setRow_heap _ _ _ (arr (y22 (fun j : Nat => rd o1 (j : Int)) (fun _ => 0) (fun _ => 0) cn)) _ _ hold)
          have hbend := hHeld2.2.2.2.1
          clear hK K hold hsz
          replace hHeld := hHeld2
          try simp only [Act.put, sAx, sZx, sSx]
          refine wpAnyH_take (i := 7) (oi := ?oisf7) (v := ?vsf7) ?hisf7 (by kernel_rfl) (by kernel_rfl) (by kernel_rfl) ?hQsf7 ?hysf7 hHeld ?hsf7
          case hisf7 => (simp only [gAx, gSx, gZx]; rfl)
          case hQsf7 => exact fun _ _ _ h => h
          case hysf7 => exact Or.inl ⟨by rfl, by intro w_ hSw; (try dsimp only at hSw); first | (go_simp; done) | (go_simp; with_reducible rfl)⟩
          try simp only [Act.put, sAx, sZx, sSx]
          subst hr
          refine wpAnyH_done (by kernel_rfl) ?_ _
          go_wp2
          refine bodyPost_ret (v := .tuple #[.agg (arr (y22 (fun j : Nat => rd o1 (j : Int)) (fun _ => 0) (fun _ => 0) cn)), .bool false]) ?_ rfl ?_
          · exact results_list (rs := [.cell 4 25, .tmp 5]) rfl (by simp) (.cell (w.heap.size + 1 + 1) 25 (arr (y22 (fun j : Nat => rd o1 (j : Int)) (fun _ => 0) (fun _ => 0) cn)) (0, 0) _ rfl HEND.out hu rfl (by kernel_rfl) (.tmp .nil))
          · exact ⟨_, _, _, _, rfl, fun x hx => by (cases hx), hbend⟩
        · go_upto_region 26 with (first
            | (go_at_call 60; (refine (spec_OrderAt.calls k aa bb o1 true _ HBK.out).mono ?_); rintro e w8 ⟨v8, rfl, ho, hb⟩; obtain ⟨A8, c8, e8⟩ := Kd.R_slice ho; subst e8; have HV8 := Aside0.mk ho; have HB8 := Aside0.mk hb; clear ho hb))
          have RS0 := Aside0.mk (RowS.of HV8.out HBC.out.size)
          have HBY := Aside0.mk (below_lower (Below.refl _ _) HB8.out HBC.out.size)
          have V1 := Aside0.mk ((HBY.out.block _ (by have := HSZ.out; omega)).trans Y1.out)
          have V2 := Aside0.mk ((HBY.out.block _ (by have := HSZ.out; omega)).trans Y2.out)
          have V3 := Aside0.mk ((HBY.out.block _ (by have := HSZ.out; omega)).trans Y3.out)
          have BW8 := Aside0.mk (below_lower HBW.out HBY.out (by have := HSZ.out; omega))
          refine wp_region_held_drew (S := (fun W => W.heap[w.heap.size]? = some (.cells (arr (y22 p0 p1 p2 cn)) 25 (0, 0)) ∧ W.heap[w.heap.size + 1]? = some (.cells #[.int .i64 5, .int .i64 aa, .int .i64 bb] 49 (0, 0)) ∧ (∃ old : Array Value, W.heap[w.heap.size + 1 + 1]? = some (.cells old 25 (0, 0)) ∧ old.size = 22) ∧ Below w.heap.size w W ∧ Stays w1.heap.size w8 W)) (by kernel_rfl) ⟨V1.out, V2.out, ⟨_, V3.out, rfl⟩, below_drew BW8.out, Nat.le_refl _, fun _ _ _ => rfl⟩ (fun hHeld => ?_)
          refine wpAnyH_take (i := 0) (oi := ?oist0) (v := ?vst0) ?hist0 (by kernel_rfl) (by kernel_rfl) (by kernel_rfl) ?hQst0 ?hyst0 hHeld ?hst0
          case hist0 => (simp only [gAx, gSx, gZx]; rfl)
          case hQst0 => exact fun _ _ _ h => h
          case hyst0 => exact Or.inl ⟨by rfl, by intro w_ hSw; (try dsimp only at hSw); first | (go_simp; done) | (go_simp; with_reducible rfl)⟩
          try simp only [Act.put, sAx, sZx, sSx]
          refine wpAnyH_take (i := 2) (oi := ?oist2) (v := ?vst2) ?hist2 (by kernel_rfl) (by kernel_rfl) (by kernel_rfl) ?hQst2 ?hyst2 hHeld ?hst2
          case hist2 => (simp only [gAx, gSx, gZx]; rfl)
          case hQst2 => exact fun _ _ _ h => h
          case hyst2 => exact Or.inl ⟨by rfl, by intro w_ hSw; (try dsimp only at hSw); first | (go_simp; done) | (go_simp; with_reducible rfl)⟩
          try simp only [Act.put, sAx, sZx, sSx]
          refine wpAnyH_take (i := 3) (oi := ?oist3) (v := (.int .i64 cn)) ?hist3 (by kernel_rfl) (by kernel_rfl) (by kernel_rfl) ?hQst3 ?hyst3 hHeld ?hst3
          case hist3 => (simp only [gAx, gSx, gZx]; rfl)
          case hQst3 => exact fun _ _ _ h => h
          case hyst3 => exact Or.inl ⟨by rfl, by intro w_ hSw; have h_ := y22_3 hSw.1; first | (go_simp; done) | (go_simp; with_reducible rfl)⟩
          try simp only [Act.put, sAx, sZx, sSx]
          refine wpAnyH_take (i := 5) (oi := ?oist5) (v := ?vst5) ?hist5 (by kernel_rfl) (by kernel_rfl) (by kernel_rfl) ?hQst5 ?hyst5 hHeld ?hst5
          case hist5 => (simp only [gAx, gSx, gZx]; rfl)
          case hQst5 => exact fun _ _ _ h => h
          case hyst5 => exact Or.inl ⟨by rfl, by intro w_ hSw; (try dsimp only at hSw); first | (go_simp; done) | (go_simp; with_reducible rfl)⟩
          try simp only [Act.put, sAx, sZx, sSx]
          refine wpAnyH_ready (rs := [1]) (by kernel_rfl) (by simp) ?_
          refine AllReadyH.cons (o := ?ocst1) ?hcst1 (fun K hK => ?hkst1) AllReadyH.nil
          case hcst1 => (simp only [gAx, gSx, gZx]; rfl)
          go_simp
          go_at_call 33
          refine (arrayS _ _ _ _ _ w8 _ RS0.out hHeld.2.2.2.2).mono ?_
          rintro e w_9 ⟨rfl, hb9⟩
          try dsimp only
          refine hK.out _ _ ⟨(hb9.block _ (lt_of_block (hHeld.1))).trans (hHeld.1), (hb9.block _ (lt_of_block (hHeld.2.1))).trans (hHeld.2.1), ⟨hHeld.2.2.1.choose, (hb9.block _ (lt_of_block (hHeld.2.2.1.choose_spec.1))).trans (hHeld.2.2.1.choose_spec.1), hHeld.2.2.1.choose_spec.2⟩, below_step hHeld.2.2.2.1 hb9, hHeld.2.2.2.2.below hb9⟩ (fun hHeld => ?_)
          clear hK K
          try simp only [Act.put, sAx, sZx, sSx]
          refine wpAnyH_take (i := 4) (oi := ?oist4) (v := (.agg (arr (y22 (fun j : Nat => rd o1 (j : Int)) (fun _ => 0) (fun _ => 0) cn)))) ?hist4 (by kernel_rfl) (by kernel_rfl) (by kernel_rfl) ?hQst4 ?hyst4 hHeld ?hst4
          case hist4 => (simp only [gAx, gSx, gZx]; rfl)
          case hQst4 => exact fun _ _ _ h => h
          case hyst4 => exact Or.inl ⟨by rfl, fun w_ hSw => execBuild rfl (by (try simp only [List.map_toArray, List.map_cons, List.map_nil]); go_simp; exact built_yard1 _ _)⟩
          try simp only [Act.put, sAx, sZx, sSx]
          refine wpAnyH_ready (rs := [6]) (by kernel_rfl) (by simp) ?_
          refine AllReadyH.cons (o := ?ocst6) ?hcst6 (fun K hK => ?hkst6) AllReadyH.nil
          case hcst6 => (simp only [gAx, gSx, gZx]; rfl)
          obtain ⟨old, hold, hsz⟩ := hHeld.2.2.1
          rw [if_pos (by rfl)]
          refine wp_store_row 25 (.tmp 4) (.tmp 93) rfl (w.heap.size + 1 + 1) (arr (y22 (fun j : Nat => rd o1 (j : Int)) (fun _ => 0) (fun _ => 0) cn)) rfl rfl 25 old hold hi hsz (by kernel_rfl) ?_
          refine hK.out _ _ ⟨(setRow_other _ _ _ _ (by omega)).trans hHeld.1, (setRow_other _ _ _ _ (by omega)).trans hHeld.2.1, ⟨(arr (y22 (fun j : Nat => rd o1 (j : Int)) (fun _ => 0) (fun _ => 0) cn)), setRow_heap _ _ _ _ _ _ hold, rfl⟩, below_row1 hHeld.2.2.2.1 (by omega) _, ⟨by rw [size_setRow]; exact hHeld.2.2.2.2.1, fun k_ h1_ h2_ => (setRow_other _ _ _ _ (by have := HSZ.out; omega)).trans (hHeld.2.2.2.2.2 k_ h1_ h2_)⟩⟩ (fun hHeld2 => ?_)
          have HEND := Aside0.mk (setRow_heap _ _ _ (arr (y22 (fun j : Nat => rd o1 (j : Int)) (fun _ => 0) (fun _ => 0) cn)) _ _ hold)
          have hbend := hHeld2.2.2.2.1
          clear hK K hold hsz
          replace hHeld := hHeld2
          try simp only [Act.put, sAx, sZx, sSx]
          refine wpAnyH_take (i := 7) (oi := ?oist7) (v := ?vst7) ?hist7 (by kernel_rfl) (by kernel_rfl) (by kernel_rfl) ?hQst7 ?hyst7 hHeld ?hst7
          case hist7 => (simp only [gAx, gSx, gZx]; rfl)
          case hQst7 => exact fun _ _ _ h => h
          case hyst7 => exact Or.inl ⟨by rfl, by intro w_ hSw; (try dsimp only at hSw); first | (go_simp; done) | (go_simp; with_reducible rfl)⟩
          try simp only [Act.put, sAx, sZx, sSx]
          subst hr
          refine wpAnyH_done (by kernel_rfl) ?_ _
          go_wp2
          refine bodyPost_ret (v := .tuple #[.agg (arr (y22 (fun j : Nat => rd o1 (j : Int)) (fun _ => 0) (fun _ => 0) cn)), .bool true]) ?_ rfl ?_
          · exact results_list (rs := [.cell 4 25, .tmp 5]) rfl (by simp) (.cell (w.heap.size + 1 + 1) 25 (arr (y22 (fun j : Nat => rd o1 (j : Int)) (fun _ => 0) (fun _ => 0) cn)) (0, 0) _ rfl HEND.out hu rfl (by kernel_rfl) (.tmp .nil))
          · exact ⟨_, _, _, _, rfl, fun x hx => by (cases hx; exact ⟨rfl, rd_nil_fun.symm, rd_nil_fun.symm, rfl⟩), hbend⟩
      simp only [mkF, if_neg e1, if_neg e2, if_neg e3, if_neg e4, if_neg e5] at h
      have hr := Option.some.inj h
      clear h
      have f1 := beq_eq_false_iff_ne.mpr e1
      have f2 := beq_eq_false_iff_ne.mpr e2
      have f3 := beq_eq_false_iff_ne.mpr e3
      have f4 := beq_eq_false_iff_ne.mpr e4
      have f5 := beq_eq_false_iff_ne.mpr e5
      go_wp2_with (first
        | ((with_reducible refine gate_dst (N := 26) rfl ?_); refine load_row_event rfl 25 (.tmp 2) rfl w.heap.size rfl 25 (arr (y22 p0 p1 p2 cn)) _ Y1.out hu rfl hi ?_)
        | ((with_reducible refine gate_store (t := 25) (p := 4) rfl ?_); refine store_row_event rfl rfl 25 (.tmp 4) (.tmp 26) rfl (w.heap.size + 1 + 1) (arr (y22 p0 p1 p2 cn)) rfl rfl 25 _ Y3.out hi rfl (by kernel_rfl) ?_; intro wz hh ho; have HEND := Aside0.mk hh; have hbend := Aside0.mk (ho.below HBW.out (by omega)); clear hh ho))
      refine bodyPost_ret (v := .tuple #[.agg (arr (y22 p0 p1 p2 cn)), .bool false]) ?_ rfl ?_
      · exact results_list (rs := [.cell 4 25, .tmp 5]) rfl (by simp) (.cell (w.heap.size + 1 + 1) 25 (arr (y22 p0 p1 p2 cn)) (0, 0) _ rfl HEND.out hu rfl (by kernel_rfl) (.tmp .nil))
      · subst hr
        exact ⟨p0, p1, p2, cn, rfl, Made.none, hbend.out⟩
    case rest =>
      obtain ⟨A0, n0, c0, A1, n1, c1, A2, n2, c2, l0, l1, l2, rfl, rfl, rfl, HRZ, RS0, RS1, RS2, HBX⟩ := hcut
      have V1 := Aside0.mk ((HBX.out.block _ (by have := HSZ.out; omega)).trans Y1.out)
      have V2 := Aside0.mk ((HBX.out.block _ (by have := HSZ.out; omega)).trans Y2.out)
      have V3 := Aside0.mk ((HBX.out.block _ (by have := HSZ.out; omega)).trans Y3.out)
      have BW8 := Aside0.mk (below_lower HBW.out HBX.out (by have := HSZ.out; omega))
      clear q20 q21 q22 q23 Y1 Y2 Y3 HBC HBW HR0 HR1 HR2 HN0 HN1 HN2
      have hr := HRZ.out
      go_upto_region 27 with fail
      by_cases ha : aa = 0
      · have ha1 : (aa == 0) = true := beq_iff_eq.mpr ha
        have HA := Aside0.mk ha
        clear ha
        refine wp_region_held_drew (S := (fun W => W.heap[w.heap.size]? = some (.cells (arr (y22 p0 p1 p2 cn)) 25 (0, 0)) ∧ W.heap[w.heap.size + 1]? = some (.cells #[.int .i64 kd, .int .i64 aa, .int .i64 bb] 49 (0, 0)) ∧ (∃ old : Array Value, W.heap[w.heap.size + 1 + 1]? = some (.cells old 25 (0, 0)) ∧ old.size = 22) ∧ Below w.heap.size w W ∧ Stays w1.heap.size wc W)) (by kernel_rfl) ⟨V1.out, V2.out, ⟨_, V3.out, rfl⟩, below_drew BW8.out, Nat.le_refl _, fun _ _ _ => rfl⟩ (fun hHeld => ?_)
        refine wpAnyH_take (i := 0) (oi := ?oit10) (v := ?vt10) ?hit10 (by kernel_rfl) (by kernel_rfl) (by kernel_rfl) ?hQt10 ?hyt10 hHeld ?ht10
        case hit10 => (simp only [gAx, gSx, gZx]; rfl)
        case hQt10 => exact fun _ _ _ h => h
        case hyt10 => exact Or.inl ⟨by rfl, by intro w_ hSw; (try dsimp only at hSw); first | (go_simp; done) | (go_simp; with_reducible rfl)⟩
        try simp only [Act.put, sAx, sZx, sSx]
        refine wpAnyH_take (i := 2) (oi := ?oit12) (v := ?vt12) ?hit12 (by kernel_rfl) (by kernel_rfl) (by kernel_rfl) ?hQt12 ?hyt12 hHeld ?ht12
        case hit12 => (simp only [gAx, gSx, gZx]; rfl)
        case hQt12 => exact fun _ _ _ h => h
        case hyt12 => exact Or.inl ⟨by rfl, by intro w_ hSw; (try dsimp only at hSw); first | (go_simp; done) | (go_simp; with_reducible rfl)⟩
        try simp only [Act.put, sAx, sZx, sSx]
        refine wpAnyH_take (i := 4) (oi := ?oit14) (v := ?vt14) ?hit14 (by kernel_rfl) (by kernel_rfl) (by kernel_rfl) ?hQt14 ?hyt14 hHeld ?ht14
        case hit14 => (simp only [gAx, gSx, gZx]; rfl)
        case hQt14 => exact fun _ _ _ h => h
        case hyt14 => exact Or.inl ⟨by rfl, by intro w_ hSw; (try dsimp only at hSw); first | (go_simp; done) | (go_simp; with_reducible rfl)⟩
        try simp only [Act.put, sAx, sZx, sSx]
        refine wpAnyH_take (i := 6) (oi := ?oit16) (v := ?vt16) ?hit16 (by kernel_rfl) (by kernel_rfl) (by kernel_rfl) ?hQt16 ?hyt16 hHeld ?ht16
        case hit16 => (simp only [gAx, gSx, gZx]; rfl)
        case hQt16 => exact fun _ _ _ h => h
        case hyt16 => exact Or.inl ⟨by rfl, by intro w_ hSw; (try dsimp only at hSw); first | (go_simp; done) | (go_simp; with_reducible rfl)⟩
        try simp only [Act.put, sAx, sZx, sSx]
        refine wpAnyH_take (i := 7) (oi := ?oit17) (v := (.int .i64 cn)) ?hit17 (by kernel_rfl) (by kernel_rfl) (by kernel_rfl) ?hQt17 ?hyt17 hHeld ?ht17
        case hit17 => (simp only [gAx, gSx, gZx]; rfl)
        case hQt17 => exact fun _ _ _ h => h
        case hyt17 => exact Or.inl ⟨by rfl, by intro w_ hSw; have h_ := y22_3 hSw.1; first | (go_simp; done) | (go_simp; with_reducible rfl)⟩
        try simp only [Act.put, sAx, sZx, sSx]
        refine wpAnyH_take (i := 9) (oi := ?oit19) (v := ?vt19) ?hit19 (by kernel_rfl) (by kernel_rfl) (by kernel_rfl) ?hQt19 ?hyt19 hHeld ?ht19
        case hit19 => (simp only [gAx, gSx, gZx]; rfl)
        case hQt19 => exact fun _ _ _ h => h
        case hyt19 => exact Or.inl ⟨by rfl, by intro w_ hSw; (try dsimp only at hSw); first | (go_simp; done) | (go_simp; with_reducible rfl)⟩
        try simp only [Act.put, sAx, sZx, sSx]
        refine wpAnyH_take (i := 10) (oi := ?oit110) (v := (.int .i64 aa)) ?hit110 (by kernel_rfl) (by kernel_rfl) (by kernel_rfl) ?hQt110 ?hyt110 hHeld ?ht110
        case hit110 => (simp only [gAx, gSx, gZx]; rfl)
        case hQt110 => exact fun _ _ _ h => h
        case hyt110 => exact Or.inl ⟨by rfl, by intro w_ hSw; obtain ⟨h0_, h1_, h2_⟩ := cellsA hSw.2.1; first | (go_simp; done) | (go_simp; with_reducible rfl)⟩
        try simp only [Act.put, sAx, sZx, sSx]
        refine wpAnyH_take (i := 11) (oi := ?oit111) (v := ?vt111) ?hit111 (by kernel_rfl) (by kernel_rfl) (by kernel_rfl) ?hQt111 ?hyt111 hHeld ?ht111
        case hit111 => (simp only [gAx, gSx, gZx]; rfl)
        case hQt111 => exact fun _ _ _ h => h
        case hyt111 => exact Or.inl ⟨by rfl, by intro w_ hSw; (try dsimp only at hSw); first | (go_simp; done) | (go_simp; with_reducible rfl)⟩
        try simp only [Act.put, sAx, sZx, sSx]
        refine wpAnyH_ready (rs := [1]) (by kernel_rfl) (by simp) ?_
        refine AllReadyH.cons (o := ?oct11) ?hct11 (fun K hK => ?hkt11) AllReadyH.nil
        case hct11 => (simp only [gAx, gSx, gZx]; rfl)
        go_simp
        go_at_call 33
        refine (arrayS _ _ _ _ _ wc _ RS0.out hHeld.2.2.2.2).mono ?_
        rintro e w_0 ⟨rfl, hb0⟩
        try dsimp only
        refine hK.out _ _ ⟨(hb0.block _ (lt_of_block (hHeld.1))).trans (hHeld.1), (hb0.block _ (lt_of_block (hHeld.2.1))).trans (hHeld.2.1), ⟨hHeld.2.2.1.choose, (hb0.block _ (lt_of_block (hHeld.2.2.1.choose_spec.1))).trans (hHeld.2.2.1.choose_spec.1), hHeld.2.2.1.choose_spec.2⟩, below_step hHeld.2.2.2.1 hb0, hHeld.2.2.2.2.below hb0⟩ (fun hHeld => ?_)
        clear hK K
        try simp only [Act.put, sAx, sZx, sSx]
        refine wpAnyH_ready (rs := [3]) (by kernel_rfl) (by simp) ?_
        refine AllReadyH.cons (o := ?oct13) ?hct13 (fun K hK => ?hkt13) AllReadyH.nil
        case hct13 => (simp only [gAx, gSx, gZx]; rfl)
        go_simp
        go_at_call 33
        refine (arrayS _ _ _ _ _ wc _ RS1.out hHeld.2.2.2.2).mono ?_
        rintro e w_1 ⟨rfl, hb1⟩
        try dsimp only
        refine hK.out _ _ ⟨(hb1.block _ (lt_of_block (hHeld.1))).trans (hHeld.1), (hb1.block _ (lt_of_block (hHeld.2.1))).trans (hHeld.2.1), ⟨hHeld.2.2.1.choose, (hb1.block _ (lt_of_block (hHeld.2.2.1.choose_spec.1))).trans (hHeld.2.2.1.choose_spec.1), hHeld.2.2.1.choose_spec.2⟩, below_step hHeld.2.2.2.1 hb1, hHeld.2.2.2.2.below hb1⟩ (fun hHeld => ?_)
        clear hK K
        try simp only [Act.put, sAx, sZx, sSx]
        refine wpAnyH_ready (rs := [5]) (by kernel_rfl) (by simp) ?_
        refine AllReadyH.cons (o := ?oct15) ?hct15 (fun K hK => ?hkt15) AllReadyH.nil
        case hct15 => (simp only [gAx, gSx, gZx]; rfl)
        go_simp
        go_at_call 33
        refine (arrayS _ _ _ _ _ wc _ RS2.out hHeld.2.2.2.2).mono ?_
        rintro e w_2 ⟨rfl, hb2⟩
        try dsimp only
        refine hK.out _ _ ⟨(hb2.block _ (lt_of_block (hHeld.1))).trans (hHeld.1), (hb2.block _ (lt_of_block (hHeld.2.1))).trans (hHeld.2.1), ⟨hHeld.2.2.1.choose, (hb2.block _ (lt_of_block (hHeld.2.2.1.choose_spec.1))).trans (hHeld.2.2.1.choose_spec.1), hHeld.2.2.1.choose_spec.2⟩, below_step hHeld.2.2.2.1 hb2, hHeld.2.2.2.2.below hb2⟩ (fun hHeld => ?_)
        clear hK K
        try simp only [Act.put, sAx, sZx, sSx]
        refine wpAnyH_take (i := 8) (oi := ?oit18) (v := (.agg (arr (y22 (fun j : Nat => rd (l0) (j : Int)) (fun j : Nat => rd (l1) (j : Int)) (fun j : Nat => rd (l2) (j : Int)) cn)))) ?hit18 (by kernel_rfl) (by kernel_rfl) (by kernel_rfl) ?hQt18 ?hyt18 hHeld ?ht18
        case hit18 => (simp only [gAx, gSx, gZx]; rfl)
        case hQt18 => exact fun _ _ _ h => h
        case hyt18 => exact Or.inl ⟨by rfl, fun w_ hSw => execBuild rfl (by (try simp only [List.map_toArray, List.map_cons, List.map_nil]); go_simp; exact built_yard _ _ _ _)⟩
        try simp only [Act.put, sAx, sZx, sSx]
        refine wpAnyH_take (i := 12) (oi := ?oit112) (v := ?vt112) ?hit112 (by kernel_rfl) (by kernel_rfl) (by kernel_rfl) ?hQt112 ?hyt112 hHeld ?ht112
        case hit112 => (simp only [gAx, gSx, gZx]; rfl)
        case hQt112 => exact fun _ _ _ h => h
        case hyt112 => exact Or.inl ⟨by rfl, by intro w_ hSw; (try dsimp only at hSw); first | (go_simp; done) | (go_simp; with_reducible rfl)⟩
        try simp only [Act.put, sAx, sZx, sSx]
        refine wpAnyH_take (i := 13) (oi := ?oit113) (v := ?vt113) ?hit113 (by kernel_rfl) (by kernel_rfl) (by kernel_rfl) ?hQt113 ?hyt113 hHeld ?ht113
        case hit113 => (simp only [gAx, gSx, gZx]; rfl)
        case hQt113 => exact fun _ _ _ h => h
        case hyt113 => exact Or.inl ⟨by rfl, by intro w_ hSw; (try dsimp only at hSw); first | (go_simp; done) | (go_simp; with_reducible rfl)⟩
        try simp only [Act.put, sAx, sZx, sSx]
        refine wpAnyH_take (i := 14) (oi := ?oit114) (v := (.int .i64 bb)) ?hit114 (by kernel_rfl) (by kernel_rfl) (by kernel_rfl) ?hQt114 ?hyt114 hHeld ?ht114
        case hit114 => (simp only [gAx, gSx, gZx]; rfl)
        case hQt114 => exact fun _ _ _ h => h
        case hyt114 => exact Or.inl ⟨by rfl, by intro w_ hSw; obtain ⟨h0_, h1_, h2_⟩ := cellsA hSw.2.1; first | (go_simp; done) | (go_simp; with_reducible rfl)⟩
        try simp only [Act.put, sAx, sZx, sSx]
        refine wpAnyH_take (i := 15) (oi := ?oit115) (v := ?vt115) ?hit115 (by kernel_rfl) (by kernel_rfl) (by kernel_rfl) ?hQt115 ?hyt115 hHeld ?ht115
        case hit115 => (simp only [gAx, gSx, gZx]; rfl)
        case hQt115 => exact fun _ _ _ h => h
        case hyt115 => exact Or.inl ⟨by rfl, by intro w_ hSw; (try dsimp only at hSw); first | (go_simp; done) | (go_simp; with_reducible rfl)⟩
        try simp only [Act.put, sAx, sZx, sSx]
        refine wpAnyH_take (i := 16) (oi := ?oit116) (v := ?vt116) ?hit116 (by kernel_rfl) (by kernel_rfl) (by kernel_rfl) ?hQt116 ?hyt116 hHeld ?ht116
        case hit116 => (simp only [gAx, gSx, gZx]; rfl)
        case hQt116 => exact fun _ _ _ h => h
        case hyt116 => exact Or.inl ⟨by rfl, by intro w_ hSw; (try dsimp only at hSw); first | (go_simp; done) | (go_simp; with_reducible rfl)⟩
        try simp only [Act.put, sAx, sZx, sSx]
        refine wpAnyH_ready (rs := [17]) (by kernel_rfl) (by simp) ?_
        refine AllReadyH.cons (o := ?oct117) ?hct117 (fun K hK => ?hkt117) AllReadyH.nil
        case hct117 => (simp only [gAx, gSx, gZx]; rfl)
        obtain ⟨old, hold, hsz⟩ := hHeld.2.2.1
        rw [if_pos (by rfl)]
        refine wp_store_row 25 (.tmp 4) (.tmp 103) rfl (w.heap.size + 1 + 1) (arr (y22 (fun j : Nat => rd (l0) (j : Int)) (fun j : Nat => rd (l1) (j : Int)) (fun j : Nat => rd (l2) (j : Int)) cn)) rfl rfl 25 old hold hi hsz (by kernel_rfl) ?_
        refine hK.out _ _ ⟨(setRow_other _ _ _ _ (by omega)).trans hHeld.1, (setRow_other _ _ _ _ (by omega)).trans hHeld.2.1, ⟨(arr (y22 (fun j : Nat => rd (l0) (j : Int)) (fun j : Nat => rd (l1) (j : Int)) (fun j : Nat => rd (l2) (j : Int)) cn)), setRow_heap _ _ _ _ _ _ hold, rfl⟩, below_row1 hHeld.2.2.2.1 (by omega) _, ⟨by rw [size_setRow]; exact hHeld.2.2.2.2.1, fun k_ h1_ h2_ => (setRow_other _ _ _ _ (by have := HSZ.out; omega)).trans (hHeld.2.2.2.2.2 k_ h1_ h2_)⟩⟩ (fun hHeld2 => ?_)
        have HEND := Aside0.mk (setRow_heap _ _ _ (arr (y22 (fun j : Nat => rd (l0) (j : Int)) (fun j : Nat => rd (l1) (j : Int)) (fun j : Nat => rd (l2) (j : Int)) cn)) _ _ hold)
        have hbend := hHeld2.2.2.2.1
        clear hK K hold hsz
        replace hHeld := hHeld2
        try simp only [Act.put, sAx, sZx, sSx]
        refine wpAnyH_take (i := 18) (oi := ?oit118) (v := ?vt118) ?hit118 (by kernel_rfl) (by kernel_rfl) (by kernel_rfl) ?hQt118 ?hyt118 hHeld ?ht118
        case hit118 => (simp only [gAx, gSx, gZx]; rfl)
        case hQt118 => exact fun _ _ _ h => h
        case hyt118 => exact Or.inl ⟨by rfl, by intro w_ hSw; (try dsimp only at hSw); first | (go_simp; done) | (go_simp; with_reducible rfl)⟩
        try simp only [Act.put, sAx, sZx, sSx]
        subst hr
        refine wpAnyH_done (by kernel_rfl) ?_ _
        go_wp2
        refine bodyPost_ret (v := .tuple #[.agg (arr (y22 (fun j : Nat => rd (l0) (j : Int)) (fun j : Nat => rd (l1) (j : Int)) (fun j : Nat => rd (l2) (j : Int)) cn)), .bool (bb == 0)]) ?_ rfl ?_
        · exact results_list (rs := [.cell 4 25, .tmp 5]) rfl (by simp) (.cell (w.heap.size + 1 + 1) 25 (arr (y22 (fun j : Nat => rd (l0) (j : Int)) (fun j : Nat => rd (l1) (j : Int)) (fun j : Nat => rd (l2) (j : Int)) cn)) (0, 0) _ rfl HEND.out hu rfl (by kernel_rfl) (.tmp .nil))
        · exact ⟨_, _, _, _, by rw [zfA_yes _ _ _ HA.out], Made.zf _ _ _, hbend⟩
      · have ha1 : (aa == 0) = false := beq_eq_false_iff_ne.mpr ha
        have HA := Aside0.mk ha
        clear ha
        refine wp_region_held_drew (S := (fun W => W.heap[w.heap.size]? = some (.cells (arr (y22 p0 p1 p2 cn)) 25 (0, 0)) ∧ W.heap[w.heap.size + 1]? = some (.cells #[.int .i64 kd, .int .i64 aa, .int .i64 bb] 49 (0, 0)) ∧ (∃ old : Array Value, W.heap[w.heap.size + 1 + 1]? = some (.cells old 25 (0, 0)) ∧ old.size = 22) ∧ Below w.heap.size w W ∧ Stays w1.heap.size wc W)) (by kernel_rfl) ⟨V1.out, V2.out, ⟨_, V3.out, rfl⟩, below_drew BW8.out, Nat.le_refl _, fun _ _ _ => rfl⟩ (fun hHeld => ?_)
        refine wpAnyH_take (i := 0) (oi := ?oit20) (v := ?vt20) ?hit20 (by kernel_rfl) (by kernel_rfl) (by kernel_rfl) ?hQt20 ?hyt20 hHeld ?ht20
        case hit20 => (simp only [gAx, gSx, gZx]; rfl)
        case hQt20 => exact fun _ _ _ h => h
        case hyt20 => exact Or.inl ⟨by rfl, by intro w_ hSw; (try dsimp only at hSw); first | (go_simp; done) | (go_simp; with_reducible rfl)⟩
        try simp only [Act.put, sAx, sZx, sSx]
        refine wpAnyH_take (i := 2) (oi := ?oit22) (v := ?vt22) ?hit22 (by kernel_rfl) (by kernel_rfl) (by kernel_rfl) ?hQt22 ?hyt22 hHeld ?ht22
        case hit22 => (simp only [gAx, gSx, gZx]; rfl)
        case hQt22 => exact fun _ _ _ h => h
        case hyt22 => exact Or.inl ⟨by rfl, by intro w_ hSw; (try dsimp only at hSw); first | (go_simp; done) | (go_simp; with_reducible rfl)⟩
        try simp only [Act.put, sAx, sZx, sSx]
        refine wpAnyH_take (i := 4) (oi := ?oit24) (v := ?vt24) ?hit24 (by kernel_rfl) (by kernel_rfl) (by kernel_rfl) ?hQt24 ?hyt24 hHeld ?ht24
        case hit24 => (simp only [gAx, gSx, gZx]; rfl)
        case hQt24 => exact fun _ _ _ h => h
        case hyt24 => exact Or.inl ⟨by rfl, by intro w_ hSw; (try dsimp only at hSw); first | (go_simp; done) | (go_simp; with_reducible rfl)⟩
        try simp only [Act.put, sAx, sZx, sSx]
        refine wpAnyH_take (i := 6) (oi := ?oit26) (v := ?vt26) ?hit26 (by kernel_rfl) (by kernel_rfl) (by kernel_rfl) ?hQt26 ?hyt26 hHeld ?ht26
        case hit26 => (simp only [gAx, gSx, gZx]; rfl)
        case hQt26 => exact fun _ _ _ h => h
        case hyt26 => exact Or.inl ⟨by rfl, by intro w_ hSw; (try dsimp only at hSw); first | (go_simp; done) | (go_simp; with_reducible rfl)⟩
        try simp only [Act.put, sAx, sZx, sSx]
        refine wpAnyH_take (i := 7) (oi := ?oit27) (v := (.int .i64 cn)) ?hit27 (by kernel_rfl) (by kernel_rfl) (by kernel_rfl) ?hQt27 ?hyt27 hHeld ?ht27
        case hit27 => (simp only [gAx, gSx, gZx]; rfl)
        case hQt27 => exact fun _ _ _ h => h
        case hyt27 => exact Or.inl ⟨by rfl, by intro w_ hSw; have h_ := y22_3 hSw.1; first | (go_simp; done) | (go_simp; with_reducible rfl)⟩
        try simp only [Act.put, sAx, sZx, sSx]
        refine wpAnyH_take (i := 9) (oi := ?oit29) (v := ?vt29) ?hit29 (by kernel_rfl) (by kernel_rfl) (by kernel_rfl) ?hQt29 ?hyt29 hHeld ?ht29
        case hit29 => (simp only [gAx, gSx, gZx]; rfl)
        case hQt29 => exact fun _ _ _ h => h
        case hyt29 => exact Or.inl ⟨by rfl, by intro w_ hSw; (try dsimp only at hSw); first | (go_simp; done) | (go_simp; with_reducible rfl)⟩
        try simp only [Act.put, sAx, sZx, sSx]
        refine wpAnyH_take (i := 10) (oi := ?oit210) (v := (.int .i64 aa)) ?hit210 (by kernel_rfl) (by kernel_rfl) (by kernel_rfl) ?hQt210 ?hyt210 hHeld ?ht210
        case hit210 => (simp only [gAx, gSx, gZx]; rfl)
        case hQt210 => exact fun _ _ _ h => h
        case hyt210 => exact Or.inl ⟨by rfl, by intro w_ hSw; obtain ⟨h0_, h1_, h2_⟩ := cellsA hSw.2.1; first | (go_simp; done) | (go_simp; with_reducible rfl)⟩
        try simp only [Act.put, sAx, sZx, sSx]
        refine wpAnyH_take (i := 11) (oi := ?oit211) (v := ?vt211) ?hit211 (by kernel_rfl) (by kernel_rfl) (by kernel_rfl) ?hQt211 ?hyt211 hHeld ?ht211
        case hit211 => (simp only [gAx, gSx, gZx]; rfl)
        case hQt211 => exact fun _ _ _ h => h
        case hyt211 => exact Or.inl ⟨by rfl, by intro w_ hSw; (try dsimp only at hSw); first | (go_simp; done) | (go_simp; with_reducible rfl)⟩
        try simp only [Act.put, sAx, sZx, sSx]
        refine wpAnyH_ready (rs := [1]) (by kernel_rfl) (by simp) ?_
        refine AllReadyH.cons (o := ?oct21) ?hct21 (fun K hK => ?hkt21) AllReadyH.nil
        case hct21 => (simp only [gAx, gSx, gZx]; rfl)
        go_simp
        go_at_call 33
        refine (arrayS _ _ _ _ _ wc _ RS0.out hHeld.2.2.2.2).mono ?_
        rintro e w_0 ⟨rfl, hb0⟩
        try dsimp only
        refine hK.out _ _ ⟨(hb0.block _ (lt_of_block (hHeld.1))).trans (hHeld.1), (hb0.block _ (lt_of_block (hHeld.2.1))).trans (hHeld.2.1), ⟨hHeld.2.2.1.choose, (hb0.block _ (lt_of_block (hHeld.2.2.1.choose_spec.1))).trans (hHeld.2.2.1.choose_spec.1), hHeld.2.2.1.choose_spec.2⟩, below_step hHeld.2.2.2.1 hb0, hHeld.2.2.2.2.below hb0⟩ (fun hHeld => ?_)
        clear hK K
        try simp only [Act.put, sAx, sZx, sSx]
        refine wpAnyH_ready (rs := [3]) (by kernel_rfl) (by simp) ?_
        refine AllReadyH.cons (o := ?oct23) ?hct23 (fun K hK => ?hkt23) AllReadyH.nil
        case hct23 => (simp only [gAx, gSx, gZx]; rfl)
        go_simp
        go_at_call 33
        refine (arrayS _ _ _ _ _ wc _ RS1.out hHeld.2.2.2.2).mono ?_
        rintro e w_1 ⟨rfl, hb1⟩
        try dsimp only
        refine hK.out _ _ ⟨(hb1.block _ (lt_of_block (hHeld.1))).trans (hHeld.1), (hb1.block _ (lt_of_block (hHeld.2.1))).trans (hHeld.2.1), ⟨hHeld.2.2.1.choose, (hb1.block _ (lt_of_block (hHeld.2.2.1.choose_spec.1))).trans (hHeld.2.2.1.choose_spec.1), hHeld.2.2.1.choose_spec.2⟩, below_step hHeld.2.2.2.1 hb1, hHeld.2.2.2.2.below hb1⟩ (fun hHeld => ?_)
        clear hK K
        try simp only [Act.put, sAx, sZx, sSx]
        refine wpAnyH_ready (rs := [5]) (by kernel_rfl) (by simp) ?_
        refine AllReadyH.cons (o := ?oct25) ?hct25 (fun K hK => ?hkt25) AllReadyH.nil
        case hct25 => (simp only [gAx, gSx, gZx]; rfl)
        go_simp
        go_at_call 33
        refine (arrayS _ _ _ _ _ wc _ RS2.out hHeld.2.2.2.2).mono ?_
        rintro e w_2 ⟨rfl, hb2⟩
        try dsimp only
        refine hK.out _ _ ⟨(hb2.block _ (lt_of_block (hHeld.1))).trans (hHeld.1), (hb2.block _ (lt_of_block (hHeld.2.1))).trans (hHeld.2.1), ⟨hHeld.2.2.1.choose, (hb2.block _ (lt_of_block (hHeld.2.2.1.choose_spec.1))).trans (hHeld.2.2.1.choose_spec.1), hHeld.2.2.1.choose_spec.2⟩, below_step hHeld.2.2.2.1 hb2, hHeld.2.2.2.2.below hb2⟩ (fun hHeld => ?_)
        clear hK K
        try simp only [Act.put, sAx, sZx, sSx]
        refine wpAnyH_take (i := 8) (oi := ?oit28) (v := (.agg (arr (y22 (fun j : Nat => rd (l0) (j : Int)) (fun j : Nat => rd (l1) (j : Int)) (fun j : Nat => rd (l2) (j : Int)) cn)))) ?hit28 (by kernel_rfl) (by kernel_rfl) (by kernel_rfl) ?hQt28 ?hyt28 hHeld ?ht28
        case hit28 => (simp only [gAx, gSx, gZx]; rfl)
        case hQt28 => exact fun _ _ _ h => h
        case hyt28 => exact Or.inl ⟨by rfl, fun w_ hSw => execBuild rfl (by (try simp only [List.map_toArray, List.map_cons, List.map_nil]); go_simp; exact built_yard _ _ _ _)⟩
        try simp only [Act.put, sAx, sZx, sSx]
        refine wpAnyH_take (i := 12) (oi := ?oit212) (v := ?vt212) ?hit212 (by kernel_rfl) (by kernel_rfl) (by kernel_rfl) ?hQt212 ?hyt212 hHeld ?ht212
        case hit212 => (simp only [gAx, gSx, gZx]; rfl)
        case hQt212 => exact fun _ _ _ h => h
        case hyt212 => exact Or.inl ⟨by rfl, by intro w_ hSw; (try dsimp only at hSw); first | (go_simp; done) | (go_simp; with_reducible rfl)⟩
        try simp only [Act.put, sAx, sZx, sSx]
        refine wpAnyH_take (i := 13) (oi := ?oit213) (v := undef) ?hit213 (by kernel_rfl) (by kernel_rfl) (by kernel_rfl) ?hQt213 ?hyt213 hHeld ?ht213
        case hit213 => (simp only [gAx, gSx, gZx]; rfl)
        case hQt213 => exact fun _ _ _ h => h
        case hyt213 => exact Or.inr ⟨by rfl, rfl⟩
        try simp only [Act.put, sAx, sZx, sSx]
        refine wpAnyH_take (i := 14) (oi := ?oit214) (v := undef) ?hit214 (by kernel_rfl) (by kernel_rfl) (by kernel_rfl) ?hQt214 ?hyt214 hHeld ?ht214
        case hit214 => (simp only [gAx, gSx, gZx]; rfl)
        case hQt214 => exact fun _ _ _ h => h
        case hyt214 => exact Or.inr ⟨by rfl, rfl⟩
        try simp only [Act.put, sAx, sZx, sSx]
        refine wpAnyH_take (i := 15) (oi := ?oit215) (v := undef) ?hit215 (by kernel_rfl) (by kernel_rfl) (by kernel_rfl) ?hQt215 ?hyt215 hHeld ?ht215
        case hit215 => (simp only [gAx, gSx, gZx]; rfl)
        case hQt215 => exact fun _ _ _ h => h
        case hyt215 => exact Or.inr ⟨by rfl, rfl⟩
        try simp only [Act.put, sAx, sZx, sSx]
        refine wpAnyH_take (i := 16) (oi := ?oit216) (v := ?vt216) ?hit216 (by kernel_rfl) (by kernel_rfl) (by kernel_rfl) ?hQt216 ?hyt216 hHeld ?ht216
        case hit216 => (simp only [gAx, gSx, gZx]; rfl)
        case hQt216 => exact fun _ _ _ h => h
        case hyt216 => exact Or.inl ⟨by rfl, by intro w_ hSw; (try dsimp only at hSw); first | (go_simp; done) | (go_simp; with_reducible rfl)⟩
        try simp only [Act.put, sAx, sZx, sSx]
        refine wpAnyH_ready (rs := [17]) (by kernel_rfl) (by simp) ?_
        refine AllReadyH.cons (o := ?oct217) ?hct217 (fun K hK => ?hkt217) AllReadyH.nil
        case hct217 => (simp only [gAx, gSx, gZx]; rfl)
        obtain ⟨old, hold, hsz⟩ := hHeld.2.2.1
        rw [if_pos (by rfl)]
        refine wp_store_row 25 (.tmp 4) (.tmp 103) rfl (w.heap.size + 1 + 1) (arr (y22 (fun j : Nat => rd (l0) (j : Int)) (fun j : Nat => rd (l1) (j : Int)) (fun j : Nat => rd (l2) (j : Int)) cn)) rfl rfl 25 old hold hi hsz (by kernel_rfl) ?_
        refine hK.out _ _ ⟨(setRow_other _ _ _ _ (by omega)).trans hHeld.1, (setRow_other _ _ _ _ (by omega)).trans hHeld.2.1, ⟨(arr (y22 (fun j : Nat => rd (l0) (j : Int)) (fun j : Nat => rd (l1) (j : Int)) (fun j : Nat => rd (l2) (j : Int)) cn)), setRow_heap _ _ _ _ _ _ hold, rfl⟩, below_row1 hHeld.2.2.2.1 (by omega) _, ⟨by rw [size_setRow]; exact hHeld.2.2.2.2.1, fun k_ h1_ h2_ => (setRow_other _ _ _ _ (by have := HSZ.out; omega)).trans (hHeld.2.2.2.2.2 k_ h1_ h2_)⟩⟩ (fun hHeld2 => ?_)
        have HEND := Aside0.mk (setRow_heap _ _ _ (arr (y22 (fun j : Nat => rd (l0) (j : Int)) (fun j : Nat => rd (l1) (j : Int)) (fun j : Nat => rd (l2) (j : Int)) cn)) _ _ hold)
        have hbend := hHeld2.2.2.2.1
        clear hK K hold hsz
        replace hHeld := hHeld2
        try simp only [Act.put, sAx, sZx, sSx]
        refine wpAnyH_take (i := 18) (oi := ?oit218) (v := ?vt218) ?hit218 (by kernel_rfl) (by kernel_rfl) (by kernel_rfl) ?hQt218 ?hyt218 hHeld ?ht218
        case hit218 => (simp only [gAx, gSx, gZx]; rfl)
        case hQt218 => exact fun _ _ _ h => h
        case hyt218 => exact Or.inl ⟨by rfl, by intro w_ hSw; (try dsimp only at hSw); first | (go_simp; done) | (go_simp; with_reducible rfl)⟩
        try simp only [Act.put, sAx, sZx, sSx]
        subst hr
        refine wpAnyH_done (by kernel_rfl) ?_ _
        go_wp2
        refine bodyPost_ret (v := .tuple #[.agg (arr (y22 (fun j : Nat => rd (l0) (j : Int)) (fun j : Nat => rd (l1) (j : Int)) (fun j : Nat => rd (l2) (j : Int)) cn)), .bool false]) ?_ rfl ?_
        · exact results_list (rs := [.cell 4 25, .tmp 5]) rfl (by simp) (.cell (w.heap.size + 1 + 1) 25 (arr (y22 (fun j : Nat => rd (l0) (j : Int)) (fun j : Nat => rd (l1) (j : Int)) (fun j : Nat => rd (l2) (j : Int)) cn)) (0, 0) _ rfl HEND.out hu rfl (by kernel_rfl) (.tmp .nil))
        · exact ⟨_, _, _, _, by rw [zfA_no _ _ _ HA.out], Made.zf _ _ _, hbend⟩

end Go.Proofs.Ythokeoocdkaffaa.Xl
