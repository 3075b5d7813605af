/- Arrays of seven numbers: laws.toIntA7, laws.eqIntA7, spec.l12Array. -/
import Derived.Test.YtdeklpmmdakbeaaDoorZvXv0
import Derived.OneCell
import Derived.BigQuiet
import Derived.Deep.QuietTactic
import Derived.RegionTactic
import Derived.BigRegion
namespace Go.Proofs.YtdeklpmmdakbeaaDoor.Xv
open Go.RowKit Go.Proofs.YtdeklpmmdakbeaaDoorW.PrintWords Go.Proofs.YtdeklpmmdakbeaaDoorW.PrintLast Go.Proofs.YtdeklpmmdakbeaaDoorW.PrintMore
attribute [local go_sem] max2_int min2_int max_two min_two max_three min_three max_four min_four
set_option linter.unusedVariables false
set_option linter.unusedSimpArgs false
theorem sAx {α : Type} (l : List α) (i : Nat) (a : α) : l.toArray.setIfInBounds i a = (l.set i a).toArray := List.setIfInBounds_toArray l i a
theorem sZx {α : Type} (l : List α) (a b : α) : (a :: l).set 0 b = b :: l := rfl
theorem sSx {α : Type} (l : List α) (a b : α) (i : Nat) : (a :: l).set (i + 1) b = a :: l.set i b := rfl
theorem gAx {α : Type} (l : List α) (i : Nat) : l.toArray[i]? = l[i]? := List.getElem?_toArray
theorem gSx {α : Type} (l : List α) (a : α) (i : Nat) : (a :: l)[i + 1]? = l[i]? := rfl
theorem gZx {α : Type} (l : List α) (a : α) : (a :: l)[0]? = some a := rfl
def m7 (f : Nat → Int) : List Int := [f 0, f 1, f 2, f 3, f 4, f 5, f 6]
def p7 (a0 a1 a2 a3 a4 a5 a6 : Int) : Nat → Int
  | 0 => a0
  | 1 => a1
  | 2 => a2
  | 3 => a3
  | 4 => a4
  | 5 => a5
  | _ => a6
def arr (xs : List Int) : Array Value := (xs.map (Value.int .i64)).toArray
/-- W2 is W but for what block g holds. -/
structure Only (W W2 : World) (g : Nat) : Prop where
  os : W2.os = W.os
  tape : W2.tape = W.tape
  output : W2.output = W.output
  size : W2.heap.size = W.heap.size
  other : ∀ k, k ≠ g → W2.heap[k]? = W.heap[k]?
theorem Only.below {W W2 w0 : World} {g B : Nat} (h : Only W W2 g) (hb : Below B w0 W) (hg : B ≤ g) : Below B w0 W2 := ⟨h.os.trans hb.os, h.tape.trans hb.tape, h.output.trans hb.output, by rw [h.size]; exact hb.size, fun k hk => (h.other k (by omega)).trans (hb.block k hk)⟩
theorem Only.blk {W W2 : World} {g k : Nat} {o : Obj} (h : Only W W2 g) (hk : k ≠ g) (hh : W.heap[k]? = some o) : W2.heap[k]? = some o := (h.other k hk).trans hh
section
variable {P : Program} {ops : Array Oper} {rest : List Oper} {o : Oper} {a : Act} {Q : Exit → Act → World → Prop} {Kc : Act → World → Prop}
theorem load_row_event {W : World} (hgd : o.guard = none) (t : TypeId) (p : Operand) (ho : o.op = .load t p) (g : Nat) (hx : a.eval p = .pointer (some ⟨g, 0, none⟩)) (e : TypeId) (cs : Array Value) (d : TypeDesc) (hh : W.heap[g]? = some (.cells cs e (0, 0)))
    (hu : P.underlying t = some d) (hd : (match d with | .struct _ | .array _ _ => true | _ => false) = true) (hi : (P.info? t).map (·.size) = some cs.size) (h : wpList P ops Q rest (a.put o.dst (.agg cs)) W) : wpList P ops Q (o :: rest) a W :=
  wpList_plain hgd fun K hK => wp_load_row t p ho g hx e cs (0, 0) d hh hu hd hi (hK _ _ h)
theorem store_row_event {W : World} (hgd : o.guard = none) (hN : o.dst = none) (t : TypeId) (p x : Operand) (ho : o.op = .store t p x) (g : Nat) (cells : Array Value) (hx : a.eval p = .pointer (some ⟨g, 0, none⟩)) (hy : a.eval x = .agg cells) (e : TypeId) (old : Array Value)
    (hh : W.heap[g]? = some (.cells old e (0, 0))) (hi : (P.info? t).map (·.size) = some cells.size) (hold : old.size = cells.size) (h1 : cells.all (·.oneCell') = true)
    (h : ∀ w2, w2.heap[g]? = some (.cells cells e (0, 0)) → Only W w2 g → wpList P ops Q rest a w2) : wpList P ops Q (o :: rest) a W :=
  wpList_plain hgd fun K hK => wp_store_row t p x ho g cells hx hy e old hh hi hold h1 (by
    rw [hN]
    exact hK _ _ (h _ (setRow_heap W g old cells e _ hh) ⟨rfl, rfl, rfl, size_setRow W g cells, fun k hk => setRow_other W g k cells hk⟩))
end
theorem m7_congr {f g : Nat → Int} (h : ∀ j, j < 7 → f j = g j) : m7 f = m7 g := by
  unfold m7
  rw [h 0 (by omega), h 1 (by omega), h 2 (by omega), h 3 (by omega), h 4 (by omega), h 5 (by omega), h 6 (by omega)]
theorem seven {i : Nat} (h : i < 7) : i = 0 ∨ i = 1 ∨ i = 2 ∨ i = 3 ∨ i = 4 ∨ i = 5 ∨ i = 6 := by omega
theorem m7_set (f : Nat → Int) (i : Nat) (hi : i < 7) (x : Int) : (m7 f).set i x = m7 fun j => if j = i then x else f j := by
  rcases seven hi with rfl | rfl | rfl | rfl | rfl | rfl | rfl <;> rfl
theorem arr_cell {w : World} {b e : Nat} {f : Nat → Int} (h : w.heap[b]? = some (.cells (arr (m7 f)) e (0, 0))) (i : Nat) (hi : i < 7) : w.cell? ⟨b, i, none⟩ = some (.int .i64 (f i)) := by
  rw [blk_cell h]
  rcases seven hi with rfl | rfl | rfl | rfl | rfl | rfl | rfl <;> rfl
theorem arr_put {w : World} {b e : Nat} {f : Nat → Int} (h : w.heap[b]? = some (.cells (arr (m7 f)) e (0, 0))) (i : Nat) (hi : i < 7) (x : Int) : (w.setCell ⟨b, i, none⟩ (.int .i64 x)).heap[b]? = some (.cells (arr (m7 fun j => if j = i then x else f j)) e (0, 0)) := by
  refine blk_put h i _ ?_
  rw [← m7_set f i hi x]
  rcases seven hi with rfl | rfl | rfl | rfl | rfl | rfl | rfl <;> rfl
theorem index7 (i : Nat) (hi : i < 7) : ∀ (w : World) (b : Nat), (Instr.indexAt 22 (.pointer (some ⟨b, 0, none⟩)) (.int .i64 (i : Int))).run Tryd.prog w = .ok (.pointer (some ⟨b, i, none⟩)) w := by
  intro w b
  rcases seven hi with rfl | rfl | rfl | rfl | rfl | rfl | rfl <;> kernel_rfl
theorem cells7 {w : World} {b e : Nat} {v0 v1 v2 v3 v4 v5 v6 : Value} (h : w.heap[b]? = some (.cells #[v0, v1, v2, v3, v4, v5, v6] e (0, 0))) : w.cell? ⟨b, 0, none⟩ = some v0 ∧ w.cell? ⟨b, 1, none⟩ = some v1 ∧ w.cell? ⟨b, 2, none⟩ = some v2 ∧ w.cell? ⟨b, 3, none⟩ = some v3 ∧ w.cell? ⟨b, 4, none⟩ = some v4 ∧ w.cell? ⟨b, 5, none⟩ = some v5 ∧ w.cell? ⟨b, 6, none⟩ = some v6 := by
  refine ⟨?_, ?_, ?_, ?_, ?_, ?_, ?_⟩ <;> rw [blk_cell h] <;> rfl
/-- A copy of an array of seven numbers. -/
def laws_toIntA7.f (a0_0 a0_1 a0_2 a0_3 a0_4 a0_5 a0_6 : Int) : Option (Int × Int × Int × Int × Int × Int × Int) := some (a0_0, a0_1, a0_2, a0_3, a0_4, a0_5, a0_6)
set_option maxHeartbeats 8000000 in
set_option maxRecDepth 100000 in
theorem laws_toIntA7_walk (p : Nat → Int) (w : World) :
    Calls Tryd.prog 21 #[.agg #[.int .i64 (p 0), .int .i64 (p 1), .int .i64 (p 2), .int .i64 (p 3), .int .i64 (p 4), .int .i64 (p 5), .int .i64 (p 6)]] w fun e w' => e = .returned (.agg #[.int .i64 (p 0), .int .i64 (p 1), .int .i64 (p 2), .int .i64 (p 3), .int .i64 (p 4), .int .i64 (p 5), .int .i64 (p 6)]) ∧ Below w.heap.size w w' := by
  have hu := Tryd.underlying22
  have HB := Aside0.mk (Below.refl w.heap.size w)
  go_enter Tryd.func21, Tryd.ntmps21
  go_wp2
  go_loopg [4] 7 (fun kq v4 wr => ∃ (i : Nat), v4 = .int .i64 (i : Int) ∧ Aside0 (i + kq = 7) ∧ Aside0 (Below w.heap.size w wr) ∧ Aside0 (wr.heap[w.heap.size]? = some (.cells (arr (m7 p)) 22 (0, 0))) ∧ Aside0 (wr.heap[w.heap.size + 1]? = some (.cells (arr (m7 fun _ => 0)) 22 (0, 0))) ∧ Aside0 (wr.heap[w.heap.size + 2]? = some (.cells (arr (m7 fun j => if j < i then p j else 0)) 22 (0, 0))))
  case atStart =>
    have z1 := blk_new w (.cells #[.int .i64 (p 0), .int .i64 (p 1), .int .i64 (p 2), .int .i64 (p 3), .int .i64 (p 4), .int .i64 (p 5), .int .i64 (p 6)] 22)
    have z2 := blk_new (w.alloc (.cells #[.int .i64 (p 0), .int .i64 (p 1), .int .i64 (p 2), .int .i64 (p 3), .int .i64 (p 4), .int .i64 (p 5), .int .i64 (p 6)] 22)) (.cells #[.int .i64 0, .int .i64 0, .int .i64 0, .int .i64 0, .int .i64 0, .int .i64 0, .int .i64 0] 22)
    have z3 := blk_new ((w.alloc (.cells #[.int .i64 (p 0), .int .i64 (p 1), .int .i64 (p 2), .int .i64 (p 3), .int .i64 (p 4), .int .i64 (p 5), .int .i64 (p 6)] 22)).alloc (.cells #[.int .i64 0, .int .i64 0, .int .i64 0, .int .i64 0, .int .i64 0, .int .i64 0, .int .i64 0] 22)) (.cells #[.int .i64 0, .int .i64 0, .int .i64 0, .int .i64 0, .int .i64 0, .int .i64 0, .int .i64 0] 22)
    rw [World.size_alloc, World.size_alloc] at z3
    rw [World.size_alloc] at z2
    exact ⟨0, rfl, ⟨rfl⟩, ⟨by repeat (with_reducible first | exact HB.out | apply below_alloc | apply pw_below_drewN | apply below_drew1)⟩, ⟨blk_alloc (blk_alloc z1 _) _⟩, ⟨blk_alloc z2 _⟩, ⟨z3⟩⟩
  case round =>
    clear HB
    obtain ⟨i, rfl, HK, HB, HX, HR, HY⟩ := hrel
    by_cases hi : i < 7
    · obtain ⟨k1, hk1⟩ : ∃ k1, gk = k1 + 1 := ⟨gk - 1, by have := HK.out; omega⟩
      subst hk1
      have d1 : decide ((i : Int) < 7) = true := decide_eq_true (by omega)
      have hx := index7 i hi
      have hc := arr_cell HX.out i hi
      have hd := arr_cell HY.out i hi
      have hf := blk_frozen HY.out i
      have E1 := Aside0.mk (show wrap64 ((i : Int) + 1) = ((i + 1 : Nat) : Int) by unfold wrap64; omega)
      have HI := Aside0.mk hi
      go_wp2
      go_roundg k1
      case measure => omega
      case rel =>
        refine ⟨i + 1, by first | rw [E1.out] | simp, ⟨by have := HK.out; omega⟩, ⟨below_set HB.out (by show w.heap.size ≤ w.heap.size + 2; omega)⟩, ⟨blk_far HX.out (p := ⟨w.heap.size + 2, i, none⟩) (by show w.heap.size ≠ w.heap.size + 2; omega) _⟩, ⟨blk_far HR.out (p := ⟨w.heap.size + 2, i, none⟩) (by show w.heap.size + 1 ≠ w.heap.size + 2; omega) _⟩, ⟨?_⟩⟩
        rw [show (m7 fun j => if j < i + 1 then p j else 0) = m7 fun j => if j = i then p i else if j < i then p j else 0 from m7_congr fun j _ => by
          by_cases h : j = i
          · subst h; rw [if_pos (by omega), if_pos rfl]
          · rw [if_neg h]; by_cases h2 : j < i
            · rw [if_pos (by omega), if_pos h2]
            · rw [if_neg (by omega), if_neg h2]]
        exact arr_put HY.out i HI.out (p i)
    · obtain rfl : i = 7 := by have := HK.out; omega
      have hs : wr.heap[w.heap.size + 2]? = some (.cells #[.int .i64 (p 0), .int .i64 (p 1), .int .i64 (p 2), .int .i64 (p 3), .int .i64 (p 4), .int .i64 (p 5), .int .i64 (p 6)] 22 (0, 0)) := HY.out
      have hr : wr.heap[w.heap.size + 1]? = some (.cells #[.int .i64 0, .int .i64 0, .int .i64 0, .int .i64 0, .int .i64 0, .int .i64 0, .int .i64 0] 22 (0, 0)) := HR.out
      have HS := Aside0.mk hs
      have HRR := Aside0.mk hr
      obtain ⟨s0, s1, s2, s3, s4, s5, s6⟩ := cells7 hs
      obtain ⟨r0, r1, r2, r3, r4, r5, r6⟩ := cells7 hr
      have f0 := blk_frozen hr 0
      have f1 := blk_frozen hr 1
      have f2 := blk_frozen hr 2
      have f3 := blk_frozen hr 3
      have f4 := blk_frozen hr 4
      have f5 := blk_frozen hr 5
      have f6 := blk_frozen hr 6
      clear hs hr
      go_wp2
      have g0 := blk_put HRR.out 0 (.int .i64 (p 0)) rfl
      have g1 := blk_put g0 1 (.int .i64 (p 1)) rfl
      have g2 := blk_put g1 2 (.int .i64 (p 2)) rfl
      have g3 := blk_put g2 3 (.int .i64 (p 3)) rfl
      have g4 := blk_put g3 4 (.int .i64 (p 4)) rfl
      have g5 := blk_put g4 5 (.int .i64 (p 5)) rfl
      have g6 := blk_put g5 6 (.int .i64 (p 6)) rfl
      refine bodyPost_ret (v := .agg #[.int .i64 (p 0), .int .i64 (p 1), .int .i64 (p 2), .int .i64 (p 3), .int .i64 (p 4), .int .i64 (p 5), .int .i64 (p 6)]) ?_ rfl ?_
      · exact results_single (r := .cell 2 22) rfl (.cell (w.heap.size + 1) 22 #[.int .i64 (p 0), .int .i64 (p 1), .int .i64 (p 2), .int .i64 (p 3), .int .i64 (p 4), .int .i64 (p 5), .int .i64 (p 6)] (0, 0) _ rfl g6 hu rfl (by kernel_rfl) .nil)
      · have LE := Aside0.mk (show w.heap.size ≤ w.heap.size + 1 by omega)
        exact ⟨rfl, below_set (below_set (below_set (below_set (below_set (below_set (below_set (HB.out) LE.out) LE.out) LE.out) LE.out) LE.out) LE.out) LE.out⟩
theorem laws_toIntA7.calls (a0_0 a0_1 a0_2 a0_3 a0_4 a0_5 a0_6 : Int) (r1 r2 r3 r4 r5 r6 r7 : Int) (w : World) (h : laws_toIntA7.f a0_0 a0_1 a0_2 a0_3 a0_4 a0_5 a0_6 = some (r1, r2, r3, r4, r5, r6, r7)) :
    Calls Tryd.prog 21 #[.agg #[.int .i64 a0_0, .int .i64 a0_1, .int .i64 a0_2, .int .i64 a0_3, .int .i64 a0_4, .int .i64 a0_5, .int .i64 a0_6]] w fun e w' => e = .returned (.agg #[.int .i64 r1, .int .i64 r2, .int .i64 r3, .int .i64 r4, .int .i64 r5, .int .i64 r6, .int .i64 r7]) ∧ Below w.heap.size w w' := by
  have h' := Option.some.inj h
  simp only [Prod.mk.injEq] at h'
  obtain ⟨rfl, rfl, rfl, rfl, rfl, rfl, rfl⟩ := h'
  exact laws_toIntA7_walk (p7 a0_0 a0_1 a0_2 a0_3 a0_4 a0_5 a0_6) w
/-- Whether two arrays of seven numbers are the same. -/
def laws_eqIntA7.f (a0_0 a0_1 a0_2 a0_3 a0_4 a0_5 a0_6 a1_0 a1_1 a1_2 a1_3 a1_4 a1_5 a1_6 : Int) : Option Bool := some (decide (a0_0 = a1_0 ∧ a0_1 = a1_1 ∧ a0_2 = a1_2 ∧ a0_3 = a1_3 ∧ a0_4 = a1_4 ∧ a0_5 = a1_5 ∧ a0_6 = a1_6))
/-- The array of a list's first seven numbers. -/
def spec_l12Array.f (l : List Int) : Option (Int × Int × Int × Int × Int × Int × Int) := some (rd l 0, rd l 1, rd l 2, rd l 3, rd l 4, rd l 5, rd l 6)
theorem rd_far (l : List Int) (j : Nat) (h : l.length ≤ j) : rd l (j : Int) = 0 := by
  unfold rd
  rw [Int.toNat_natCast]
  simp [h]
set_option maxHeartbeats 8000000 in
set_option maxRecDepth 100000 in
theorem spec_l12Array_walk (A0 : Option Addr) (c0 : Nat) (l : List Int) (w : World) (hr0 : Kd.C (Kd.int .i64) w A0 l.length l) (hc0 : l.length ≤ c0) :
    Calls Tryd.prog 18 #[.slice A0 l.length c0] w fun e w' => e = .returned (.agg #[.int .i64 (rd l 0), .int .i64 (rd l 1), .int .i64 (rd l 2), .int .i64 (rd l 3), .int .i64 (rd l 4), .int .i64 (rd l 5), .int .i64 (rd l 6)]) ∧ Below w.heap.size w w' := by
  have hu := Tryd.underlying22
  have HB := Aside0.mk (Below.refl w.heap.size w)
  have HR0 := Aside0.mk hr0
  have HC0 := Aside0.mk hc0
  have z1 := blk_new w (.cells #[.int .i64 0, .int .i64 0, .int .i64 0, .int .i64 0, .int .i64 0, .int .i64 0, .int .i64 0] 22)
  have z2 := blk_new (w.alloc (.cells #[.int .i64 0, .int .i64 0, .int .i64 0, .int .i64 0, .int .i64 0, .int .i64 0, .int .i64 0] 22)) (.cells #[.int .i64 0, .int .i64 0, .int .i64 0, .int .i64 0, .int .i64 0, .int .i64 0, .int .i64 0] 22)
  rw [World.size_alloc] at z2
  have Z1 := Aside0.mk (blk_alloc z1 (.cells #[.int .i64 0, .int .i64 0, .int .i64 0, .int .i64 0, .int .i64 0, .int .i64 0, .int .i64 0] 22))
  have Z2 := Aside0.mk z2
  obtain ⟨y0, y1, y2, y3, y4, y5, y6⟩ := cells7 z2
  have f0 := blk_frozen z2 0
  have f1 := blk_frozen z2 1
  have f2 := blk_frozen z2 2
  have f3 := blk_frozen z2 3
  have f4 := blk_frozen z2 4
  have f5 := blk_frozen z2 5
  have f6 := blk_frozen z2 6
  clear z1 z2 hr0 hc0
  go_enter Tryd.func18, Tryd.ntmps18
  go_wp2
  clear y0 y1 y2 y3 y4 y5 y6 f0 f1 f2 f3 f4 f5 f6
  go_loopg [4] 7 (fun kq v4 wr => ∃ (i : Nat), v4 = .int .i64 (i : Int) ∧ Aside0 (i + kq = 7) ∧ Aside0 (i ≤ l.length) ∧ Aside0 (Below w.heap.size w wr) ∧ Aside0 (wr.heap[w.heap.size]? = some (.cells (arr (m7 fun _ => 0)) 22 (0, 0))) ∧ Aside0 (wr.heap[w.heap.size + 1]? = some (.cells (arr (m7 fun j => if j < i then rd l (j : Int) else 0)) 22 (0, 0))))
  case atStart =>
    exact ⟨0, rfl, ⟨rfl⟩, ⟨by omega⟩, ⟨below_alloc (below_alloc HB.out _) _⟩, ⟨Z1.out⟩, ⟨Z2.out⟩⟩
  case round =>
    clear HB Z1 Z2
    obtain ⟨i, rfl, HK, HL, HB, HR, HY⟩ := hrel
    by_cases hi : i < l.length ∧ i < 7
    · obtain ⟨k1, hk1⟩ : ∃ k1, gk = k1 + 1 := ⟨gk - 1, by have := HK.out; omega⟩
      subst hk1
      obtain ⟨hi1, hi⟩ := hi
      have d1 : decide ((i : Int) < 7) = true := decide_eq_true (by omega)
      have d2 : decide (i < l.length) = true := decide_eq_true hi1
      have d3 : decide (0 ≤ (i : Int)) = true := decide_eq_true (by omega)
      have hx := index7 i hi
      obtain ⟨ad, hA, hcell⟩ := Kd.at_int (Kd.C_below HR0.out HB.out) (i : Int) (by omega) (by omega)
      subst hA
      rw [Int.toNat_natCast] at hcell
      have hd := arr_cell HY.out i hi
      have hf := blk_frozen HY.out i
      have E1 := Aside0.mk (show wrap64 ((i : Int) + 1) = ((i + 1 : Nat) : Int) by unfold wrap64; omega)
      have HI := Aside0.mk hi
      have HI1 := Aside0.mk hi1
      go_wp2
      go_roundg k1
      case measure => omega
      case rel =>
        refine ⟨i + 1, by first | rw [E1.out] | simp, ⟨by have := HK.out; omega⟩, ⟨HI1.out⟩, ⟨below_set HB.out (by show w.heap.size ≤ w.heap.size + 1; omega)⟩, ⟨blk_far HR.out (p := ⟨w.heap.size + 1, i, none⟩) (by show w.heap.size ≠ w.heap.size + 1; omega) _⟩, ⟨?_⟩⟩
        rw [show (m7 fun j => if j < i + 1 then rd l (j : Int) else 0) = m7 fun j => if j = i then rd l (i : Int) else if j < i then rd l (j : Int) else 0 from m7_congr fun j _ => by
          by_cases h : j = i
          · subst h; rw [if_pos (by omega), if_pos rfl]
          · rw [if_neg h]; by_cases h2 : j < i
            · rw [if_pos (by omega), if_pos h2]
            · rw [if_neg (by omega), if_neg h2]]
        exact arr_put HY.out i HI.out (rd l (i : Int))
    · have hend : (m7 fun j => if j < i then rd l (j : Int) else 0) = m7 fun j => rd l (j : Int) := m7_congr fun j hj => by
        by_cases h : j < i
        · rw [if_pos h]
        · rw [if_neg h, rd_far l j (by have := HL.out; have := HK.out; omega)]
      have hs : wr.heap[w.heap.size + 1]? = some (.cells #[.int .i64 (rd l 0), .int .i64 (rd l 1), .int .i64 (rd l 2), .int .i64 (rd l 3), .int .i64 (rd l 4), .int .i64 (rd l 5), .int .i64 (rd l 6)] 22 (0, 0)) := by have h_ := HY.out; rw [hend] at h_; exact h_
      have hr : wr.heap[w.heap.size]? = some (.cells #[.int .i64 0, .int .i64 0, .int .i64 0, .int .i64 0, .int .i64 0, .int .i64 0, .int .i64 0] 22 (0, 0)) := HR.out
      have HRR := Aside0.mk hr
      obtain ⟨s0, s1, s2, s3, s4, s5, s6⟩ := cells7 hs
      obtain ⟨r0, r1, r2, r3, r4, r5, r6⟩ := cells7 hr
      have f0 := blk_frozen hr 0
      have f1 := blk_frozen hr 1
      have f2 := blk_frozen hr 2
      have f3 := blk_frozen hr 3
      have f4 := blk_frozen hr 4
      have f5 := blk_frozen hr 5
      have f6 := blk_frozen hr 6
      clear hs hr hend
      by_cases h1 : i < l.length
      · have d2 : decide (i < l.length) = true := decide_eq_true h1
        have d1 : decide ((i : Int) < 7) = false := decide_eq_false (by omega)
        clear hi h1
        go_wp2
        have g0 := blk_put HRR.out 0 (.int .i64 (rd l 0)) rfl
        have g1 := blk_put g0 1 (.int .i64 (rd l 1)) rfl
        have g2 := blk_put g1 2 (.int .i64 (rd l 2)) rfl
        have g3 := blk_put g2 3 (.int .i64 (rd l 3)) rfl
        have g4 := blk_put g3 4 (.int .i64 (rd l 4)) rfl
        have g5 := blk_put g4 5 (.int .i64 (rd l 5)) rfl
        have g6 := blk_put g5 6 (.int .i64 (rd l 6)) rfl
        refine bodyPost_ret (v := .agg #[.int .i64 (rd l 0), .int .i64 (rd l 1), .int .i64 (rd l 2), .int .i64 (rd l 3), .int .i64 (rd l 4), .int .i64 (rd l 5), .int .i64 (rd l 6)]) ?_ rfl ?_
        · exact results_single (r := .cell 2 22) rfl (.cell (w.heap.size) 22 #[.int .i64 (rd l 0), .int .i64 (rd l 1), .int .i64 (rd l 2), .int .i64 (rd l 3), .int .i64 (rd l 4), .int .i64 (rd l 5), .int .i64 (rd l 6)] (0, 0) _ rfl g6 hu rfl (by kernel_rfl) .nil)
        · have LE := Aside0.mk (show w.heap.size ≤ w.heap.size by omega)
          exact ⟨rfl, below_set (below_set (below_set (below_set (below_set (below_set (below_set (HB.out) LE.out) LE.out) LE.out) LE.out) LE.out) LE.out) LE.out⟩
      · have d2 : decide (i < l.length) = false := decide_eq_false h1
        clear hi h1
        go_wp2
        have g0 := blk_put HRR.out 0 (.int .i64 (rd l 0)) rfl
        have g1 := blk_put g0 1 (.int .i64 (rd l 1)) rfl
        have g2 := blk_put g1 2 (.int .i64 (rd l 2)) rfl
        have g3 := blk_put g2 3 (.int .i64 (rd l 3)) rfl
        have g4 := blk_put g3 4 (.int .i64 (rd l 4)) rfl
        have g5 := blk_put g4 5 (.int .i64 (rd l 5)) rfl
        have g6 := blk_put g5 6 (.int .i64 (rd l 6)) rfl
        refine bodyPost_ret (v := .agg #[.int .i64 (rd l 0), .int .i64 (rd l 1), .int .i64 (rd l 2), .int .i64 (rd l 3), .int .i64 (rd l 4), .int .i64 (rd l 5), .int .i64 (rd l 6)]) ?_ rfl ?_
        · exact results_single (r := .cell 2 22) rfl (.cell (w.heap.size) 22 #[.int .i64 (rd l 0), .int .i64 (rd l 1), .int .i64 (rd l 2), .int .i64 (rd l 3), .int .i64 (rd l 4), .int .i64 (rd l 5), .int .i64 (rd l 6)] (0, 0) _ rfl g6 hu rfl (by kernel_rfl) .nil)
        · have LE := Aside0.mk (show w.heap.size ≤ w.heap.size by omega)
          exact ⟨rfl, below_set (below_set (below_set (below_set (below_set (below_set (below_set (HB.out) LE.out) LE.out) LE.out) LE.out) LE.out) LE.out) LE.out⟩
theorem spec_l12Array.calls (A0 : Option Addr) (c0 : Nat) (l0 : List Int) (r1 r2 r3 r4 r5 r6 r7 : Int) (w : World) (hr0 : Kd.C (Kd.int .i64) w A0 l0.length l0) (hc0 : l0.length ≤ c0) (h : spec_l12Array.f l0 = some (r1, r2, r3, r4, r5, r6, r7)) :
    Calls Tryd.prog 18 #[.slice A0 l0.length c0] w fun e w' => e = .returned (.agg #[.int .i64 r1, .int .i64 r2, .int .i64 r3, .int .i64 r4, .int .i64 r5, .int .i64 r6, .int .i64 r7]) ∧ Below w.heap.size w w' := by
  have h' := Option.some.inj h
  simp only [Prod.mk.injEq] at h'
  obtain ⟨rfl, rfl, rfl, rfl, rfl, rfl, rfl⟩ := h'
  exact spec_l12Array_walk A0 c0 l0 w hr0 hc0


end Go.Proofs.YtdeklpmmdakbeaaDoor.Xv
