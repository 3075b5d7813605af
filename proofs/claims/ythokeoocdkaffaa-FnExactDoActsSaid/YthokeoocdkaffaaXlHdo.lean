/- An act of a yard: the reference and the program. -/
import Derived.Test.YthokeoocdkaffaaXl0
import Derived.Test.YthokeoocdkaffaaXlHarr7
import Derived.Test.YthokeoocdkaffaaXlHgood
import Derived.Test.YthokeoocdkaffaaXlHiact
import Derived.Test.YthokeoocdkaffaaXlHmake
import Derived.Test.YthokeoocdkaffaaXlHparts
import Derived.Test.YthokeoocdkaffaaXlHyard
import Derived.OneCell
import Derived.Lib.SliceRun
import Derived.Shelf.Abstract
import Derived.Outline
import Derived.BigQuiet
import Derived.Deep.QuietTactic
import Derived.RegionTactic
import Derived.BigRegion
namespace Go.Proofs.Ythokeoocdkaffaa.Xl
open Go.RowKit Go.Proofs.YthokeoocdkaffaaW.PrintWords Go.Proofs.YthokeoocdkaffaaW.PrintLast Go.Proofs.YthokeoocdkaffaaW.PrintMore
attribute [local go_sem] max2_int min2_int max_two min_two max_three min_three max_four min_four
set_option linter.unusedVariables false
set_option linter.unusedSimpArgs false
def rdf (l : List Int) : Nat → Int := fun j => rd l (j : Int)
def yz : List Int := y22 (fun _ => 0) (fun _ => 0) (fun _ => 0) 0
/-- The yard behind an act, and whether it is told. -/
def doY (r : Option (List Int × List Int × List Int)) (b : Bool) (cn : Int) : List Int := match r, b with
  | some x, true => y22 (rdf x.1) (rdf x.2.1) (rdf x.2.2) (cn + 1)
  | _, _ => yz
def doB (r : Option (List Int × List Int × List Int)) (b : Bool) : Bool := match r, b with
  | some _, true => true
  | _, _ => false
def GoodR (k : Nat) (r : Option (List Int × List Int × List Int)) (b : Bool) (cn : Int) : Prop := ∀ x, r = some x → goodF k (rdf x.1) (rdf x.2.1) (rdf x.2.2) (cn + 1) = some b
theorem load_row_evG {P : Program} {ops : Array Oper} {rest : List Oper} {o : Oper} {a : Act} {Q : Exit → Act → World → Prop} {W : World} (hw : Region.wanted o (yielded ops a.tmps) = true) (t : TypeId) (p : Operand) (ho : o.op = .load t p) (g : Nat) (hx : a.eval p = .pointer (some ⟨g, 0, none⟩)) (e : TypeId) (cs : Array Value) (d : TypeDesc) (hh : W.heap[g]? = some (.cells cs e (0, 0)))
    (hu : P.underlying t = some d) (hd : (match d with | .struct _ | .array _ _ => true | _ => false) = true) (hi : (P.info? t).map (·.size) = some cs.size) (h : wpList P ops Q rest (a.put o.dst (.agg cs)) W) : wpList P ops Q (o :: rest) a W :=
  wpList_step fun K hK => by rw [if_pos hw]; exact wp_load_row t p ho g hx e cs (0, 0) d hh hu hd hi (hK _ _ h)
theorem build_ev {P : Program} {ops : Array Oper} {rest : List Oper} {o : Oper} {a : Act} {w : World} {Q : Exit → Act → World → Prop} (hg : o.guard = none) (t : TypeId) (parts : Array (Nat × Operand)) (ho : o.op = .build t parts) (cs : Array Value)
    (hv : P.built t (parts.map fun (i, x) => (i, a.eval x)).toList = some cs) (h : wpList P ops Q rest (a.put o.dst (.agg cs)) w) : wpList P ops Q (o :: rest) a w :=
  wpList_build hg t parts ho (by rw [hv]; rfl) (by rw [hv]; exact h)
set_option maxHeartbeats 16000000 in
set_option maxRecDepth 100000 in
theorem l12Do_walk (k : Nat) (p0 p1 p2 : Nat → Int) (cn kd aa bb : Int) (r : Option (List Int × List Int × List Int)) (b : Bool) (w : World) (hc : 0 ≤ cn ∧ cn ≤ 1000) (h : mkF (spec_l2Back.f k) (spec_OrderAt.f k) (tw p0) (tw p1) (tw p2) kd aa bb = some r) (hg : GoodR k r b cn) :
    Calls Try.prog 42 #[.agg (arr (y22 p0 p1 p2 cn)), .agg #[.int .i64 kd, .int .i64 aa, .int .i64 bb]] w fun e w' => e = .returned (.tuple #[.agg (arr (doY r b cn)), .bool (doB r b)]) ∧ Below w.heap.size w w' := by
  have H := Aside0.mk h
  have HGD := Aside0.mk hg
  have HC := Aside0.mk hc
  clear h hg hc
  have hu := Try.underlying25
  have hi : (Try.prog.info? 25).map (·.size) = some 22 := by kernel_rfl
  have hua := Try.underlying49
  have hia : (Try.prog.info? 49).map (·.size) = some 3 := by kernel_rfl
  have z1 := blk_alloc (blk_alloc (blk_new w (.cells (arr (y22 p0 p1 p2 cn)) 25)) (.cells #[.int .i64 kd, .int .i64 aa, .int .i64 bb] 49)) (.cells #[.int .i64 0, .int .i64 0, .int .i64 0, .int .i64 0, .int .i64 0, .int .i64 0, .int .i64 0, .int .i64 0, .int .i64 0, .int .i64 0, .int .i64 0, .int .i64 0, .int .i64 0, .int .i64 0, .int .i64 0, .int .i64 0, .int .i64 0, .int .i64 0, .int .i64 0, .int .i64 0, .int .i64 0, .int .i64 0] 25)
  have z2 := blk_alloc (blk_new (w.alloc (.cells (arr (y22 p0 p1 p2 cn)) 25)) (.cells #[.int .i64 kd, .int .i64 aa, .int .i64 bb] 49)) (.cells #[.int .i64 0, .int .i64 0, .int .i64 0, .int .i64 0, .int .i64 0, .int .i64 0, .int .i64 0, .int .i64 0, .int .i64 0, .int .i64 0, .int .i64 0, .int .i64 0, .int .i64 0, .int .i64 0, .int .i64 0, .int .i64 0, .int .i64 0, .int .i64 0, .int .i64 0, .int .i64 0, .int .i64 0, .int .i64 0] 25)
  have z3 := blk_new ((w.alloc (.cells (arr (y22 p0 p1 p2 cn)) 25)).alloc (.cells #[.int .i64 kd, .int .i64 aa, .int .i64 bb] 49)) (.cells #[.int .i64 0, .int .i64 0, .int .i64 0, .int .i64 0, .int .i64 0, .int .i64 0, .int .i64 0, .int .i64 0, .int .i64 0, .int .i64 0, .int .i64 0, .int .i64 0, .int .i64 0, .int .i64 0, .int .i64 0, .int .i64 0, .int .i64 0, .int .i64 0, .int .i64 0, .int .i64 0, .int .i64 0, .int .i64 0] 25)
  rw [World.size_alloc, World.size_alloc] at z3
  rw [World.size_alloc] at z2
  obtain ⟨w1, hw1⟩ : ∃ w1, w1 = ((w.alloc (.cells (arr (y22 p0 p1 p2 cn)) 25)).alloc (.cells #[.int .i64 kd, .int .i64 aa, .int .i64 bb] 49)).alloc (.cells #[.int .i64 0, .int .i64 0, .int .i64 0, .int .i64 0, .int .i64 0, .int .i64 0, .int .i64 0, .int .i64 0, .int .i64 0, .int .i64 0, .int .i64 0, .int .i64 0, .int .i64 0, .int .i64 0, .int .i64 0, .int .i64 0, .int .i64 0, .int .i64 0, .int .i64 0, .int .i64 0, .int .i64 0, .int .i64 0] 25) := ⟨_, rfl⟩
  have B1 := Aside0.mk (show Below w.heap.size w w1 by rw [hw1]; exact below_alloc (below_alloc (below_alloc (Below.refl _ _) _) _) _)
  have HSZ := Aside0.mk (show w1.heap.size = w.heap.size + 3 by rw [hw1]; simp only [World.size_alloc])
  rw [← hw1] at z1 z2 z3
  have Z1 := Aside0.mk z1
  have A1 := Aside0.mk z2
  have R1 := Aside0.mk (show w1.heap[w.heap.size + 1 + 1]? = some (.cells (arr yz) 25 (0, 0)) from z3)
  clear z1 z2 z3
  go_enter Try.func42, Try.ntmps42
  go_upto_region 1 with fail
  rw [← hw1]
  clear hw1
  go_upto_region 2 with (first
    | ((with_reducible refine gate_dst (N := 9) rfl ?_); refine load_row_event rfl 25 (.tmp 2) rfl w.heap.size rfl 25 (arr (y22 p0 p1 p2 cn)) _ Z1.out hu rfl hi ?_)
    | ((with_reducible refine gate_dst (N := 10) rfl ?_); refine load_row_event rfl 49 (.tmp 3) rfl (w.heap.size + 1) rfl 49 #[.int .i64 kd, .int .i64 aa, .int .i64 bb] _ A1.out hua rfl hia ?_)
    | (go_at_call 51; (refine (l12Make_walk k p0 p1 p2 cn kd aa bb r _ H.out).mono ?_); rintro e w2 ⟨q0, q1, q2, cx, rfl, hm, hb⟩; have Z2 := Aside0.mk ((hb.block _ (lt_of_block Z1.out)).trans Z1.out); have A2 := Aside0.mk ((hb.block _ (lt_of_block A1.out)).trans A1.out); have R2 := Aside0.mk ((hb.block _ (lt_of_block R1.out)).trans R1.out); have B2 := Aside0.mk (below_step B1.out hb); have HM := Aside0.mk hm; have HG := Aside0.mk (show w.heap.size + 3 ≤ w2.heap.size by have h1_ := HSZ.out; have h2_ := hb.size; omega); clear hm hb)
    | ((with_reducible refine gate_store (t := 25) (p := 6) rfl ?_); (refine store_row_event rfl rfl 25 (.tmp 6) (.tmp 12) rfl w2.heap.size (arr (y22 q0 q1 q2 cx)) rfl rfl 25 _ (blk_new w2 _) hi rfl (by kernel_rfl) ?_; intro wz hh ho; obtain ⟨w3, e3⟩ : ∃ w3, w3 = wz := ⟨_, rfl⟩; have X3 := Aside0.mk hh; have Z3 := Aside0.mk (ho.blk (by have h1_ := HG.out; omega) (blk_alloc Z2.out _)); have R3 := Aside0.mk (ho.blk (by have h1_ := HG.out; omega) (blk_alloc R2.out _)); have B3 := Aside0.mk (ho.below (below_alloc B2.out _) (by have h1_ := HG.out; omega)); clear hh ho)))
  subst e3
  obtain ⟨c1, hc1⟩ : ∃ c1 : Int, cn + 1 = c1 := ⟨_, rfl⟩
  have HC1 := Aside0.mk hc1
  have hcA := HC.out.1
  have hcB := HC.out.2
  have q21 := y22_3 Z3.out
  have q21x := y22_3 X3.out
  have f_ := frz X3.out 21
  go_upto_region 3 with fail
  have Y4 := Aside0.mk (blk_put X3.out 21 (.int .i64 c1) (show _ = arr (y22 q0 q1 q2 c1) from rfl))
  have Z4 := Aside0.mk (blk_far Z3.out (p := ⟨w2.heap.size, 21, none⟩) (by show w.heap.size ≠ w2.heap.size; have h1_ := HG.out; omega) (.int .i64 c1))
  have R4 := Aside0.mk (blk_far R3.out (p := ⟨w2.heap.size, 21, none⟩) (by show w.heap.size + 1 + 1 ≠ w2.heap.size; have h1_ := HG.out; omega) (.int .i64 c1))
  have B4 := Aside0.mk (below_set (j := 21) (v := .int .i64 c1) B3.out (show w.heap.size ≤ w2.heap.size by have h1_ := HG.out; omega))
  clear q21 q21x f_ hc1
  cases r with
  | none =>
    go_wp2_with (first
      | ((with_reducible refine gate_dst (N := 25) rfl ?_); refine build_ev rfl 25 #[] rfl (arr yz) (by kernel_rfl) ?_)
      | ((with_reducible refine gate_store (t := 25) (p := 4) rfl ?_); (refine store_row_event rfl rfl 25 (.tmp 4) (.tmp 25) rfl (w.heap.size + 1 + 1) (arr yz) rfl rfl 25 _ R4.out hi rfl (by kernel_rfl) ?_; intro wz hh ho; have HEND := Aside0.mk hh; have BEND := Aside0.mk (ho.below B4.out (show w.heap.size ≤ w.heap.size + 1 + 1 by omega)); clear hh ho)))
    refine bodyPost_ret (v := .tuple #[.agg (arr yz), .bool false]) ?_ rfl ?_
    · exact results_list (rs := [.cell 4 25, .tmp 5]) rfl (by simp) (.cell (w.heap.size + 1 + 1) 25 (arr yz) (0, 0) _ rfl HEND.out hu rfl (by kernel_rfl) (.tmp .nil))
    · exact ⟨rfl, BEND.out⟩
  | some x =>
    obtain ⟨hq0, hq1, hq2, hcx⟩ := HM.out x rfl
    have hgd := HGD.out x rfl
    have YE : arr (y22 q0 q1 q2 c1) = arr (y22 (rdf x.1) (rdf x.2.1) (rdf x.2.2) (cn + 1)) := by rw [hq0, hq1, hq2, HC1.out]; rfl
    rw [YE] at Y4
    obtain ⟨cs, hcs⟩ : ∃ cs, cs = arr (y22 (rdf x.1) (rdf x.2.1) (rdf x.2.2) (cn + 1)) := ⟨_, rfl⟩
    have HGG := Aside0.mk hgd
    clear hgd hq0 hq1 hq2 hcx YE
    cases b with
    | true =>
      go_wp2_with (first
        | ((with_reducible refine gate_dst (N := 21) rfl ?_); refine load_row_evG (by rfl) 25 (.tmp 6) rfl w2.heap.size rfl 25 (arr (y22 (rdf x.1) (rdf x.2.1) (rdf x.2.2) (cn + 1))) _ Y4.out hu rfl hi ?_)
        | (go_at_call 37; (refine (l12Good_walk k (rdf x.1) (rdf x.2.1) (rdf x.2.2) (cn + 1) true _ HGG.out).mono ?_); rintro e w5 ⟨rfl, hb⟩; have Y5 := Aside0.mk ((hb.block _ (lt_of_block Y4.out)).trans Y4.out); have R5 := Aside0.mk ((hb.block _ (lt_of_block R4.out)).trans R4.out); have B5 := Aside0.mk (below_step B4.out hb); clear hb)
        | ((with_reducible refine gate_dst (N := 26) rfl ?_); refine load_row_event rfl 25 (.tmp 6) rfl w2.heap.size rfl 25 (arr (y22 (rdf x.1) (rdf x.2.1) (rdf x.2.2) (cn + 1))) _ Y5.out hu rfl hi ?_)
        | ((with_reducible refine gate_store (t := 25) (p := 4) rfl ?_); (refine store_row_event rfl rfl 25 (.tmp 4) (.tmp 26) rfl (w.heap.size + 1 + 1) (arr (y22 (rdf x.1) (rdf x.2.1) (rdf x.2.2) (cn + 1))) rfl rfl 25 _ R5.out hi rfl (by kernel_rfl) ?_; intro wz hh ho; have HEND := Aside0.mk hh; have BEND := Aside0.mk (ho.below B5.out (show w.heap.size ≤ w.heap.size + 1 + 1 by omega)); clear hh ho)))
      refine bodyPost_ret (v := .tuple #[.agg (arr (y22 (rdf x.1) (rdf x.2.1) (rdf x.2.2) (cn + 1))), .bool true]) ?_ rfl ?_
      · exact results_list (rs := [.cell 4 25, .tmp 5]) rfl (by simp) (.cell (w.heap.size + 1 + 1) 25 (arr (y22 (rdf x.1) (rdf x.2.1) (rdf x.2.2) (cn + 1))) (0, 0) _ rfl HEND.out hu rfl (by kernel_rfl) (.tmp .nil))
      · exact ⟨rfl, BEND.out⟩
    | false =>
      go_wp2_with (first
        | ((with_reducible refine gate_dst (N := 21) rfl ?_); refine load_row_evG (by rfl) 25 (.tmp 6) rfl w2.heap.size rfl 25 (arr (y22 (rdf x.1) (rdf x.2.1) (rdf x.2.2) (cn + 1))) _ Y4.out hu rfl hi ?_)
        | (go_at_call 37; (refine (l12Good_walk k (rdf x.1) (rdf x.2.1) (rdf x.2.2) (cn + 1) false _ HGG.out).mono ?_); rintro e w5 ⟨rfl, hb⟩; have Y5 := Aside0.mk ((hb.block _ (lt_of_block Y4.out)).trans Y4.out); have R5 := Aside0.mk ((hb.block _ (lt_of_block R4.out)).trans R4.out); have B5 := Aside0.mk (below_step B4.out hb); clear hb)
        | ((with_reducible refine gate_dst (N := 25) rfl ?_); refine build_ev rfl 25 #[] rfl (arr yz) (by kernel_rfl) ?_)
        | ((with_reducible refine gate_store (t := 25) (p := 4) rfl ?_); (refine store_row_event rfl rfl 25 (.tmp 4) (.tmp 25) rfl (w.heap.size + 1 + 1) (arr yz) rfl rfl 25 _ R5.out hi rfl (by kernel_rfl) ?_; intro wz hh ho; have HEND := Aside0.mk hh; have BEND := Aside0.mk (ho.below B5.out (show w.heap.size ≤ w.heap.size + 1 + 1 by omega)); clear hh ho)))
      refine bodyPost_ret (v := .tuple #[.agg (arr yz), .bool false]) ?_ rfl ?_
      · exact results_list (rs := [.cell 4 25, .tmp 5]) rfl (by simp) (.cell (w.heap.size + 1 + 1) 25 (arr yz) (0, 0) _ rfl HEND.out hu rfl (by kernel_rfl) (.tmp .nil))
      · exact ⟨rfl, BEND.out⟩
set_option maxHeartbeats 16000000 in
set_option maxRecDepth 100000 in
theorem specDoAct_walk (k : Nat) (p0 p1 p2 : Nat → Int) (cn kd aa bb : Int) (g : Bool) (r : Option (List Int × List Int × List Int)) (b : Bool) (w : World) (h0 : goodF k p0 p1 p2 cn = some g) (hc : g = true → 0 ≤ cn ∧ cn ≤ 1000) (h : g = true → mkF (spec_l2Back.f k) (spec_OrderAt.f k) (tw p0) (tw p1) (tw p2) kd aa bb = some r) (hg : g = true → GoodR k r b cn) (hn : g = false → r = none) :
    Calls Try.prog 24 #[.agg (arr (y22 p0 p1 p2 cn)), .agg #[.int .i64 kd, .int .i64 aa, .int .i64 bb]] w fun e w' => e = .returned (.tuple #[.agg (arr (doY r b cn)), .bool (doB r b)]) ∧ Below w.heap.size w w' := by
  obtain ⟨yy, hyy⟩ : ∃ yy, yy = doY r b cn := ⟨_, rfl⟩
  obtain ⟨bb2, hbb⟩ : ∃ bb2, bb2 = doB r b := ⟨_, rfl⟩
  have hsz : (arr yy).size = 22 := by rw [hyy]; unfold doY; split <;> rfl
  have h1c : (arr yy).all (·.oneCell') = true := by rw [hyy]; unfold doY; split <;> kernel_rfl
  have hD : g = true → ∀ w : World, Calls Try.prog 42 #[.agg (arr (y22 p0 p1 p2 cn)), .agg #[.int .i64 kd, .int .i64 aa, .int .i64 bb]] w fun e w' => e = .returned (.tuple #[.agg (arr yy), .bool bb2]) ∧ Below w.heap.size w w' := fun h1 w => by rw [hyy, hbb]; exact l12Do_walk k p0 p1 p2 cn kd aa bb r b w (hc h1) (h h1) (hg h1)
  have hN : g = false → yy = yz ∧ bb2 = false := fun h1 => by rw [hyy, hbb, hn h1]; cases b <;> exact ⟨rfl, rfl⟩
  rw [← hyy, ← hbb]
  have H0 := Aside0.mk h0
  have HN := Aside0.mk hN
  have HD := Aside0.mk hD
  have HSY := Aside0.mk hsz
  have H1Y := Aside0.mk h1c
  clear h hg hc h0 hn hN hD hsz h1c hyy hbb
  have hu := Try.underlying25
  have hi : (Try.prog.info? 25).map (·.size) = some 22 := by kernel_rfl
  have hua := Try.underlying49
  have hia : (Try.prog.info? 49).map (·.size) = some 3 := by kernel_rfl
  have z1 := blk_alloc (blk_alloc (blk_new w (.cells (arr (y22 p0 p1 p2 cn)) 25)) (.cells #[.int .i64 kd, .int .i64 aa, .int .i64 bb] 49)) (.cells #[.int .i64 0, .int .i64 0, .int .i64 0, .int .i64 0, .int .i64 0, .int .i64 0, .int .i64 0, .int .i64 0, .int .i64 0, .int .i64 0, .int .i64 0, .int .i64 0, .int .i64 0, .int .i64 0, .int .i64 0, .int .i64 0, .int .i64 0, .int .i64 0, .int .i64 0, .int .i64 0, .int .i64 0, .int .i64 0] 25)
  have z2 := blk_alloc (blk_new (w.alloc (.cells (arr (y22 p0 p1 p2 cn)) 25)) (.cells #[.int .i64 kd, .int .i64 aa, .int .i64 bb] 49)) (.cells #[.int .i64 0, .int .i64 0, .int .i64 0, .int .i64 0, .int .i64 0, .int .i64 0, .int .i64 0, .int .i64 0, .int .i64 0, .int .i64 0, .int .i64 0, .int .i64 0, .int .i64 0, .int .i64 0, .int .i64 0, .int .i64 0, .int .i64 0, .int .i64 0, .int .i64 0, .int .i64 0, .int .i64 0, .int .i64 0] 25)
  have z3 := blk_new ((w.alloc (.cells (arr (y22 p0 p1 p2 cn)) 25)).alloc (.cells #[.int .i64 kd, .int .i64 aa, .int .i64 bb] 49)) (.cells #[.int .i64 0, .int .i64 0, .int .i64 0, .int .i64 0, .int .i64 0, .int .i64 0, .int .i64 0, .int .i64 0, .int .i64 0, .int .i64 0, .int .i64 0, .int .i64 0, .int .i64 0, .int .i64 0, .int .i64 0, .int .i64 0, .int .i64 0, .int .i64 0, .int .i64 0, .int .i64 0, .int .i64 0, .int .i64 0] 25)
  rw [World.size_alloc, World.size_alloc] at z3
  rw [World.size_alloc] at z2
  obtain ⟨w1, hw1⟩ : ∃ w1, w1 = ((w.alloc (.cells (arr (y22 p0 p1 p2 cn)) 25)).alloc (.cells #[.int .i64 kd, .int .i64 aa, .int .i64 bb] 49)).alloc (.cells #[.int .i64 0, .int .i64 0, .int .i64 0, .int .i64 0, .int .i64 0, .int .i64 0, .int .i64 0, .int .i64 0, .int .i64 0, .int .i64 0, .int .i64 0, .int .i64 0, .int .i64 0, .int .i64 0, .int .i64 0, .int .i64 0, .int .i64 0, .int .i64 0, .int .i64 0, .int .i64 0, .int .i64 0, .int .i64 0] 25) := ⟨_, rfl⟩
  have B1 := Aside0.mk (show Below w.heap.size w w1 by rw [hw1]; exact below_alloc (below_alloc (below_alloc (Below.refl _ _) _) _) _)
  have HSZ := Aside0.mk (show w1.heap.size = w.heap.size + 3 by rw [hw1]; simp only [World.size_alloc])
  rw [← hw1] at z1 z2 z3
  have Z1 := Aside0.mk z1
  have A1 := Aside0.mk z2
  have R1 := Aside0.mk (show w1.heap[w.heap.size + 1 + 1]? = some (.cells (arr yz) 25 (0, 0)) from z3)
  clear z1 z2 z3
  go_enter Try.func24, Try.ntmps24
  go_upto_region 1 with fail
  rw [← hw1]
  clear hw1
  cases g with
  | true =>
    have HDD := Aside0.mk (HD.out rfl)
    clear HD
    go_wp2_with (first
      | ((with_reducible refine gate_dst (N := 6) rfl ?_); refine load_row_event rfl 25 (.tmp 2) rfl w.heap.size rfl 25 (arr (y22 p0 p1 p2 cn)) _ Z1.out hu rfl hi ?_)
      | (go_at_call 37; (refine (l12Good_walk k p0 p1 p2 cn true _ H0.out).mono ?_); rintro e w2 ⟨rfl, hb⟩; have Z2 := Aside0.mk ((hb.block _ (lt_of_block Z1.out)).trans Z1.out); have A2 := Aside0.mk ((hb.block _ (lt_of_block A1.out)).trans A1.out); have R2 := Aside0.mk ((hb.block _ (lt_of_block R1.out)).trans R1.out); have B2 := Aside0.mk (below_step B1.out hb); clear hb)
      | ((with_reducible refine gate_dst (N := 10) rfl ?_); refine load_row_event rfl 25 (.tmp 2) rfl w.heap.size rfl 25 (arr (y22 p0 p1 p2 cn)) _ Z2.out hu rfl hi ?_)
      | ((with_reducible refine gate_dst (N := 11) rfl ?_); refine load_row_event rfl 49 (.tmp 3) rfl (w.heap.size + 1) rfl 49 #[.int .i64 kd, .int .i64 aa, .int .i64 bb] _ A2.out hua rfl hia ?_)
      | (go_at_call 42; (refine (HDD.out _).mono ?_); rintro e w3 ⟨rfl, hb⟩; have Z3 := Aside0.mk ((hb.block _ (lt_of_block Z2.out)).trans Z2.out); have A3 := Aside0.mk ((hb.block _ (lt_of_block A2.out)).trans A2.out); have R3 := Aside0.mk ((hb.block _ (lt_of_block R2.out)).trans R2.out); have B3 := Aside0.mk (below_step B2.out hb); clear hb)
      | ((with_reducible refine gate_store (t := 25) (p := 4) rfl ?_); (refine store_row_event rfl rfl 25 (.tmp 4) (.tmp 13) rfl (w.heap.size + 1 + 1) (arr yy) rfl rfl 25 _ R3.out (by rw [HSY.out]; exact hi) (by rw [HSY.out]; rfl) H1Y.out ?_; intro wz hh ho; have HEND := Aside0.mk hh; have BEND := Aside0.mk (ho.below B3.out (show w.heap.size ≤ w.heap.size + 1 + 1 by omega)); clear hh ho)))
    refine bodyPost_ret (v := .tuple #[.agg (arr yy), .bool bb2]) ?_ rfl ?_
    · exact results_list (rs := [.cell 4 25, .tmp 5]) rfl (by simp) (.cell (w.heap.size + 1 + 1) 25 (arr yy) (0, 0) _ rfl HEND.out hu rfl (by rw [HSY.out]; exact hi) (.tmp .nil))
    · exact ⟨rfl, BEND.out⟩
  | false =>
    obtain ⟨rfl, rfl⟩ := HN.out rfl
    go_wp2_with (first
      | ((with_reducible refine gate_dst (N := 6) rfl ?_); refine load_row_event rfl 25 (.tmp 2) rfl w.heap.size rfl 25 (arr (y22 p0 p1 p2 cn)) _ Z1.out hu rfl hi ?_)
      | (go_at_call 37; (refine (l12Good_walk k p0 p1 p2 cn false _ H0.out).mono ?_); rintro e w2 ⟨rfl, hb⟩; have Z2 := Aside0.mk ((hb.block _ (lt_of_block Z1.out)).trans Z1.out); have A2 := Aside0.mk ((hb.block _ (lt_of_block A1.out)).trans A1.out); have R2 := Aside0.mk ((hb.block _ (lt_of_block R1.out)).trans R1.out); have B2 := Aside0.mk (below_step B1.out hb); clear hb)
      | ((with_reducible refine gate_dst (N := 9) rfl ?_); refine build_ev rfl 25 #[] rfl (arr yz) (by kernel_rfl) ?_)
      | ((with_reducible refine gate_store (t := 25) (p := 4) rfl ?_); (refine store_row_event rfl rfl 25 (.tmp 4) (.tmp 9) rfl (w.heap.size + 1 + 1) (arr yz) rfl rfl 25 _ R2.out hi rfl (by kernel_rfl) ?_; intro wz hh ho; have HEND := Aside0.mk hh; have BEND := Aside0.mk (ho.below B2.out (show w.heap.size ≤ w.heap.size + 1 + 1 by omega)); clear hh ho)))
    refine bodyPost_ret (v := .tuple #[.agg (arr yz), .bool false]) ?_ rfl ?_
    · exact results_list (rs := [.cell 4 25, .tmp 5]) rfl (by simp) (.cell (w.heap.size + 1 + 1) 25 (arr yz) (0, 0) _ rfl HEND.out hu rfl (by kernel_rfl) (.tmp .nil))
    · exact ⟨rfl, BEND.out⟩
theorem yard_walk2 (A0 : Option Addr) (n0 c0 : Nat) (l0 : List Int) (A1 : Option Addr) (n1 c1 : Nat) (l1 : List Int) (A2 : Option Addr) (n2 c2 : Nat) (l2 : List Int) (a1 : Int) (B gx : Nat) (w8 w : World) (h0 : RowG B gx w8 A0 n0 c0 l0) (h1 : RowG B gx w8 A1 n1 c1 l1) (h2 : RowG B gx w8 A2 n2 c2 l2) (hs : StaysG B gx w8 w) :
    Calls Try.prog 35 #[.agg #[.slice A0 n0 c0, .slice A1 n1 c1, .slice A2 n2 c2], .int .i64 a1] w fun e w' => e = .returned (.agg (arr (y22 (rdf l0) (rdf l1) (rdf l2) a1))) ∧ Below w.heap.size w w' := by
  obtain ⟨rfl, _, h0⟩ := h0
  obtain ⟨rfl, _, h1⟩ := h1
  obtain ⟨rfl, _, h2⟩ := h2
  exact impl_parts_yard_walk A0 c0 l0 A1 c1 l1 A2 c2 l2 a1 w (h0 w hs) (h1 w hs) (h2 w hs)
set_option maxHeartbeats 16000000 in
set_option maxRecDepth 100000 in
theorem implDoAct_walk (k : Nat) (p0 p1 p2 : Nat → Int) (cn kd aa bb : Int) (g : Bool) (r : Option (List Int × List Int × List Int)) (b : Bool) (w : World) (h0 : partsF k p0 p1 p2 cn = some g) (hc : g = true → 0 ≤ cn ∧ cn ≤ 1000) (h : g = true → mkF (impl_back.f k) (impl_OrderAt.f k) (tw p0) (tw p1) (tw p2) kd aa bb = some r) (hb : g = true → b = !(cn == 1000)) (hn : g = false → r = none) :
    Calls Try.prog 26 #[.agg (arr (y22 p0 p1 p2 cn)), .agg #[.int .i64 kd, .int .i64 aa, .int .i64 bb]] w fun e w' => e = .returned (.tuple #[.agg (arr (doY r b cn)), .bool (doB r b)]) ∧ Below w.heap.size w w' := by
  have hup := Try.underlying62
  have hip : (Try.prog.info? 62).map (·.size) = some 3 := by kernel_rfl
  have H0 := Aside0.mk h0
  cases g with
  | false =>
    obtain rfl := hn rfl
    have ey : doY none b cn = yz := by cases b <;> rfl
    have eb : doB none b = false := by cases b <;> rfl
    rw [ey, eb]
    clear h0 hc h hb hn ey eb
    have hu := Try.underlying25
    have hi : (Try.prog.info? 25).map (·.size) = some 22 := by kernel_rfl
    have hua := Try.underlying49
    have hia : (Try.prog.info? 49).map (·.size) = some 3 := by kernel_rfl
    have z1 := blk_alloc (blk_alloc (blk_new w (.cells (arr (y22 p0 p1 p2 cn)) 25)) (.cells #[.int .i64 kd, .int .i64 aa, .int .i64 bb] 49)) (.cells #[.int .i64 0, .int .i64 0, .int .i64 0, .int .i64 0, .int .i64 0, .int .i64 0, .int .i64 0, .int .i64 0, .int .i64 0, .int .i64 0, .int .i64 0, .int .i64 0, .int .i64 0, .int .i64 0, .int .i64 0, .int .i64 0, .int .i64 0, .int .i64 0, .int .i64 0, .int .i64 0, .int .i64 0, .int .i64 0] 25)
    have z2 := blk_alloc (blk_new (w.alloc (.cells (arr (y22 p0 p1 p2 cn)) 25)) (.cells #[.int .i64 kd, .int .i64 aa, .int .i64 bb] 49)) (.cells #[.int .i64 0, .int .i64 0, .int .i64 0, .int .i64 0, .int .i64 0, .int .i64 0, .int .i64 0, .int .i64 0, .int .i64 0, .int .i64 0, .int .i64 0, .int .i64 0, .int .i64 0, .int .i64 0, .int .i64 0, .int .i64 0, .int .i64 0, .int .i64 0, .int .i64 0, .int .i64 0, .int .i64 0, .int .i64 0] 25)
    have z3 := blk_new ((w.alloc (.cells (arr (y22 p0 p1 p2 cn)) 25)).alloc (.cells #[.int .i64 kd, .int .i64 aa, .int .i64 bb] 49)) (.cells #[.int .i64 0, .int .i64 0, .int .i64 0, .int .i64 0, .int .i64 0, .int .i64 0, .int .i64 0, .int .i64 0, .int .i64 0, .int .i64 0, .int .i64 0, .int .i64 0, .int .i64 0, .int .i64 0, .int .i64 0, .int .i64 0, .int .i64 0, .int .i64 0, .int .i64 0, .int .i64 0, .int .i64 0, .int .i64 0] 25)
    rw [World.size_alloc, World.size_alloc] at z3
    rw [World.size_alloc] at z2
    obtain ⟨w1, hw1⟩ : ∃ w1, w1 = ((w.alloc (.cells (arr (y22 p0 p1 p2 cn)) 25)).alloc (.cells #[.int .i64 kd, .int .i64 aa, .int .i64 bb] 49)).alloc (.cells #[.int .i64 0, .int .i64 0, .int .i64 0, .int .i64 0, .int .i64 0, .int .i64 0, .int .i64 0, .int .i64 0, .int .i64 0, .int .i64 0, .int .i64 0, .int .i64 0, .int .i64 0, .int .i64 0, .int .i64 0, .int .i64 0, .int .i64 0, .int .i64 0, .int .i64 0, .int .i64 0, .int .i64 0, .int .i64 0] 25) := ⟨_, rfl⟩
    have B1 := Aside0.mk (show Below w.heap.size w w1 by rw [hw1]; exact below_alloc (below_alloc (below_alloc (Below.refl _ _) _) _) _)
    have HSZ := Aside0.mk (show w1.heap.size = w.heap.size + 3 by rw [hw1]; simp only [World.size_alloc])
    rw [← hw1] at z1 z2 z3
    have Z1 := Aside0.mk z1
    have A1 := Aside0.mk z2
    have R1 := Aside0.mk (show w1.heap[w.heap.size + 1 + 1]? = some (.cells (arr yz) 25 (0, 0)) from z3)
    clear z1 z2 z3
    go_enter Try.func26, Try.ntmps26
    go_upto_region 1 with fail
    rw [← hw1]
    clear hw1
    go_upto_region 2 with (first
      | ((with_reducible refine gate_dst (N := 9) rfl ?_); refine load_row_event rfl 25 (.tmp 2) rfl w.heap.size rfl 25 (arr (y22 p0 p1 p2 cn)) _ Z1.out hu rfl hi ?_)
      | (go_at_call 39; (refine (partsOf_rows k p0 p1 p2 cn false _ H0.out).mono ?_); rintro e w2 ⟨U0, c0, U1, c1, U2, c2, s1, s2, rfl, hs12, hr0, hr1, hr2, hb⟩; have Z2 := Aside0.mk ((hb.block _ (lt_of_block Z1.out)).trans Z1.out); have A2 := Aside0.mk ((hb.block _ (lt_of_block A1.out)).trans A1.out); have R2 := Aside0.mk ((hb.block _ (lt_of_block R1.out)).trans R1.out); have B2 := Aside0.mk (below_step B1.out hb); have HS12 := Aside0.mk hs12; have HR0 := Aside0.mk (Kd.R_bound hr0); have HR1 := Aside0.mk (Kd.R_bound hr1); have HR2 := Aside0.mk (Kd.R_bound hr2); have HG := Aside0.mk (show w.heap.size + 3 ≤ w2.heap.size by have h1_ := HSZ.out; have h2_ := hb.size; omega); have HBP := Aside0.mk hb; clear hb hs12 hr0 hr1 hr2)
      | ((with_reducible refine gate_store (t := 62) (p := 6) rfl ?_); (refine store_row_event rfl rfl 62 (.tmp 6) (.tmp 11) rfl w2.heap.size #[.slice U0 (tw p0).length c0, .slice U1 (tw p1).length c1, .slice U2 (tw p2).length c2] rfl rfl 62 _ (blk_new w2 _) hip rfl (by kernel_rfl) ?_; intro wz hh ho; obtain ⟨w3, e3⟩ : ∃ w3, w3 = wz := ⟨_, rfl⟩; have X3 := Aside0.mk hh; have Z3 := Aside0.mk (ho.blk (by have h1_ := HG.out; omega) (blk_alloc Z2.out _)); have A3 := Aside0.mk (ho.blk (by have h1_ := HG.out; omega) (blk_alloc A2.out _)); have R3 := Aside0.mk (ho.blk (by have h1_ := HG.out; omega) (blk_alloc R2.out _)); have B3 := Aside0.mk (ho.below (below_alloc B2.out _) (by have h1_ := HG.out; omega)); have W3 := Aside0.mk (show Below w2.heap.size w2 wz from ho.below (below_alloc (Below.refl _ _) _) (Nat.le_refl _)); have HS3 := Aside0.mk (show wz.heap.size = w2.heap.size + 1 by rw [ho.size, World.size_alloc]); clear hh ho)))
    subst e3
    go_wp2_with (first
      | ((with_reducible refine gate_dst (N := 20) rfl ?_); refine build_ev rfl 25 #[] rfl (arr yz) (by kernel_rfl) ?_)
      | ((with_reducible refine gate_store (t := 25) (p := 4) rfl ?_); (refine store_row_event rfl rfl 25 (.tmp 4) (.tmp 20) rfl (w.heap.size + 1 + 1) (arr yz) rfl rfl 25 _ R3.out hi rfl (by kernel_rfl) ?_; intro wz hh ho; have HEND := Aside0.mk hh; have BEND := Aside0.mk (ho.below B3.out (show w.heap.size ≤ w.heap.size + 1 + 1 by omega)); clear hh ho)))
    refine bodyPost_ret (v := .tuple #[.agg (arr yz), .bool false]) ?_ rfl ?_
    · exact results_list (rs := [.cell 4 25, .tmp 5]) rfl (by simp) (.cell (w.heap.size + 1 + 1) 25 (arr yz) (0, 0) _ rfl HEND.out hu rfl (by kernel_rfl) (.tmp .nil))
    · exact ⟨rfl, BEND.out⟩
  | true =>
    have HC := Aside0.mk (hc rfl)
    have HM := Aside0.mk (h rfl)
    have hb1 := hb rfl
    clear h0 hc h hb hn
    by_cases h1000 : cn = 1000
    · have e1 : (cn == 1000) = true := beq_iff_eq.mpr h1000
      rw [e1] at hb1
      obtain rfl : b = false := hb1
      have ey : doY r false cn = yz := by cases r <;> rfl
      have eb : doB r false = false := by cases r <;> rfl
      rw [ey, eb]
      have E1 := Aside0.mk e1
      clear ey eb h1000 e1
      have hu := Try.underlying25
      have hi : (Try.prog.info? 25).map (·.size) = some 22 := by kernel_rfl
      have hua := Try.underlying49
      have hia : (Try.prog.info? 49).map (·.size) = some 3 := by kernel_rfl
      have z1 := blk_alloc (blk_alloc (blk_new w (.cells (arr (y22 p0 p1 p2 cn)) 25)) (.cells #[.int .i64 kd, .int .i64 aa, .int .i64 bb] 49)) (.cells #[.int .i64 0, .int .i64 0, .int .i64 0, .int .i64 0, .int .i64 0, .int .i64 0, .int .i64 0, .int .i64 0, .int .i64 0, .int .i64 0, .int .i64 0, .int .i64 0, .int .i64 0, .int .i64 0, .int .i64 0, .int .i64 0, .int .i64 0, .int .i64 0, .int .i64 0, .int .i64 0, .int .i64 0, .int .i64 0] 25)
      have z2 := blk_alloc (blk_new (w.alloc (.cells (arr (y22 p0 p1 p2 cn)) 25)) (.cells #[.int .i64 kd, .int .i64 aa, .int .i64 bb] 49)) (.cells #[.int .i64 0, .int .i64 0, .int .i64 0, .int .i64 0, .int .i64 0, .int .i64 0, .int .i64 0, .int .i64 0, .int .i64 0, .int .i64 0, .int .i64 0, .int .i64 0, .int .i64 0, .int .i64 0, .int .i64 0, .int .i64 0, .int .i64 0, .int .i64 0, .int .i64 0, .int .i64 0, .int .i64 0, .int .i64 0] 25)
      have z3 := blk_new ((w.alloc (.cells (arr (y22 p0 p1 p2 cn)) 25)).alloc (.cells #[.int .i64 kd, .int .i64 aa, .int .i64 bb] 49)) (.cells #[.int .i64 0, .int .i64 0, .int .i64 0, .int .i64 0, .int .i64 0, .int .i64 0, .int .i64 0, .int .i64 0, .int .i64 0, .int .i64 0, .int .i64 0, .int .i64 0, .int .i64 0, .int .i64 0, .int .i64 0, .int .i64 0, .int .i64 0, .int .i64 0, .int .i64 0, .int .i64 0, .int .i64 0, .int .i64 0] 25)
      rw [World.size_alloc, World.size_alloc] at z3
      rw [World.size_alloc] at z2
      obtain ⟨w1, hw1⟩ : ∃ w1, w1 = ((w.alloc (.cells (arr (y22 p0 p1 p2 cn)) 25)).alloc (.cells #[.int .i64 kd, .int .i64 aa, .int .i64 bb] 49)).alloc (.cells #[.int .i64 0, .int .i64 0, .int .i64 0, .int .i64 0, .int .i64 0, .int .i64 0, .int .i64 0, .int .i64 0, .int .i64 0, .int .i64 0, .int .i64 0, .int .i64 0, .int .i64 0, .int .i64 0, .int .i64 0, .int .i64 0, .int .i64 0, .int .i64 0, .int .i64 0, .int .i64 0, .int .i64 0, .int .i64 0] 25) := ⟨_, rfl⟩
      have B1 := Aside0.mk (show Below w.heap.size w w1 by rw [hw1]; exact below_alloc (below_alloc (below_alloc (Below.refl _ _) _) _) _)
      have HSZ := Aside0.mk (show w1.heap.size = w.heap.size + 3 by rw [hw1]; simp only [World.size_alloc])
      rw [← hw1] at z1 z2 z3
      have Z1 := Aside0.mk z1
      have A1 := Aside0.mk z2
      have R1 := Aside0.mk (show w1.heap[w.heap.size + 1 + 1]? = some (.cells (arr yz) 25 (0, 0)) from z3)
      clear z1 z2 z3
      go_enter Try.func26, Try.ntmps26
      go_upto_region 1 with fail
      rw [← hw1]
      clear hw1
      go_upto_region 2 with (first
        | ((with_reducible refine gate_dst (N := 9) rfl ?_); refine load_row_event rfl 25 (.tmp 2) rfl w.heap.size rfl 25 (arr (y22 p0 p1 p2 cn)) _ Z1.out hu rfl hi ?_)
        | (go_at_call 39; (refine (partsOf_rows k p0 p1 p2 cn true _ H0.out).mono ?_); rintro e w2 ⟨U0, c0, U1, c1, U2, c2, s1, s2, rfl, hs12, hr0, hr1, hr2, hb⟩; have Z2 := Aside0.mk ((hb.block _ (lt_of_block Z1.out)).trans Z1.out); have A2 := Aside0.mk ((hb.block _ (lt_of_block A1.out)).trans A1.out); have R2 := Aside0.mk ((hb.block _ (lt_of_block R1.out)).trans R1.out); have B2 := Aside0.mk (below_step B1.out hb); have HS12 := Aside0.mk hs12; have HR0 := Aside0.mk (Kd.R_bound hr0); have HR1 := Aside0.mk (Kd.R_bound hr1); have HR2 := Aside0.mk (Kd.R_bound hr2); have HG := Aside0.mk (show w.heap.size + 3 ≤ w2.heap.size by have h1_ := HSZ.out; have h2_ := hb.size; omega); have HBP := Aside0.mk hb; clear hb hs12 hr0 hr1 hr2)
        | ((with_reducible refine gate_store (t := 62) (p := 6) rfl ?_); (refine store_row_event rfl rfl 62 (.tmp 6) (.tmp 11) rfl w2.heap.size #[.slice U0 (tw p0).length c0, .slice U1 (tw p1).length c1, .slice U2 (tw p2).length c2] rfl rfl 62 _ (blk_new w2 _) hip rfl (by kernel_rfl) ?_; intro wz hh ho; obtain ⟨w3, e3⟩ : ∃ w3, w3 = wz := ⟨_, rfl⟩; have X3 := Aside0.mk hh; have Z3 := Aside0.mk (ho.blk (by have h1_ := HG.out; omega) (blk_alloc Z2.out _)); have A3 := Aside0.mk (ho.blk (by have h1_ := HG.out; omega) (blk_alloc A2.out _)); have R3 := Aside0.mk (ho.blk (by have h1_ := HG.out; omega) (blk_alloc R2.out _)); have B3 := Aside0.mk (ho.below (below_alloc B2.out _) (by have h1_ := HG.out; omega)); have W3 := Aside0.mk (show Below w2.heap.size w2 wz from ho.below (below_alloc (Below.refl _ _) _) (Nat.le_refl _)); have HS3 := Aside0.mk (show wz.heap.size = w2.heap.size + 1 by rw [ho.size, World.size_alloc]); clear hh ho)))
      subst e3
      have q21 := y22_3 Z3.out
      have e1 := E1.out
      go_wp2_with (first
        | ((with_reducible refine gate_dst (N := 20) rfl ?_); refine build_ev rfl 25 #[] rfl (arr yz) (by kernel_rfl) ?_)
        | ((with_reducible refine gate_store (t := 25) (p := 4) rfl ?_); (refine store_row_event rfl rfl 25 (.tmp 4) (.tmp 20) rfl (w.heap.size + 1 + 1) (arr yz) rfl rfl 25 _ R3.out hi rfl (by kernel_rfl) ?_; intro wz hh ho; have HEND := Aside0.mk hh; have BEND := Aside0.mk (ho.below B3.out (show w.heap.size ≤ w.heap.size + 1 + 1 by omega)); clear hh ho)))
      refine bodyPost_ret (v := .tuple #[.agg (arr yz), .bool false]) ?_ rfl ?_
      · exact results_list (rs := [.cell 4 25, .tmp 5]) rfl (by simp) (.cell (w.heap.size + 1 + 1) 25 (arr yz) (0, 0) _ rfl HEND.out hu rfl (by kernel_rfl) (.tmp .nil))
      · exact ⟨rfl, BEND.out⟩
    · have e1 : (cn == 1000) = false := beq_eq_false_iff_ne.mpr h1000
      rw [e1] at hb1
      obtain rfl : b = true := hb1
      have E1 := Aside0.mk e1
      clear h1000 e1
      cases r with
      | none =>
        have hu := Try.underlying25
        have hi : (Try.prog.info? 25).map (·.size) = some 22 := by kernel_rfl
        have hua := Try.underlying49
        have hia : (Try.prog.info? 49).map (·.size) = some 3 := by kernel_rfl
        have z1 := blk_alloc (blk_alloc (blk_new w (.cells (arr (y22 p0 p1 p2 cn)) 25)) (.cells #[.int .i64 kd, .int .i64 aa, .int .i64 bb] 49)) (.cells #[.int .i64 0, .int .i64 0, .int .i64 0, .int .i64 0, .int .i64 0, .int .i64 0, .int .i64 0, .int .i64 0, .int .i64 0, .int .i64 0, .int .i64 0, .int .i64 0, .int .i64 0, .int .i64 0, .int .i64 0, .int .i64 0, .int .i64 0, .int .i64 0, .int .i64 0, .int .i64 0, .int .i64 0, .int .i64 0] 25)
        have z2 := blk_alloc (blk_new (w.alloc (.cells (arr (y22 p0 p1 p2 cn)) 25)) (.cells #[.int .i64 kd, .int .i64 aa, .int .i64 bb] 49)) (.cells #[.int .i64 0, .int .i64 0, .int .i64 0, .int .i64 0, .int .i64 0, .int .i64 0, .int .i64 0, .int .i64 0, .int .i64 0, .int .i64 0, .int .i64 0, .int .i64 0, .int .i64 0, .int .i64 0, .int .i64 0, .int .i64 0, .int .i64 0, .int .i64 0, .int .i64 0, .int .i64 0, .int .i64 0, .int .i64 0] 25)
        have z3 := blk_new ((w.alloc (.cells (arr (y22 p0 p1 p2 cn)) 25)).alloc (.cells #[.int .i64 kd, .int .i64 aa, .int .i64 bb] 49)) (.cells #[.int .i64 0, .int .i64 0, .int .i64 0, .int .i64 0, .int .i64 0, .int .i64 0, .int .i64 0, .int .i64 0, .int .i64 0, .int .i64 0, .int .i64 0, .int .i64 0, .int .i64 0, .int .i64 0, .int .i64 0, .int .i64 0, .int .i64 0, .int .i64 0, .int .i64 0, .int .i64 0, .int .i64 0, .int .i64 0] 25)
        rw [World.size_alloc, World.size_alloc] at z3
        rw [World.size_alloc] at z2
        obtain ⟨w1, hw1⟩ : ∃ w1, w1 = ((w.alloc (.cells (arr (y22 p0 p1 p2 cn)) 25)).alloc (.cells #[.int .i64 kd, .int .i64 aa, .int .i64 bb] 49)).alloc (.cells #[.int .i64 0, .int .i64 0, .int .i64 0, .int .i64 0, .int .i64 0, .int .i64 0, .int .i64 0, .int .i64 0, .int .i64 0, .int .i64 0, .int .i64 0, .int .i64 0, .int .i64 0, .int .i64 0, .int .i64 0, .int .i64 0, .int .i64 0, .int .i64 0, .int .i64 0, .int .i64 0, .int .i64 0, .int .i64 0] 25) := ⟨_, rfl⟩
        have B1 := Aside0.mk (show Below w.heap.size w w1 by rw [hw1]; exact below_alloc (below_alloc (below_alloc (Below.refl _ _) _) _) _)
        have HSZ := Aside0.mk (show w1.heap.size = w.heap.size + 3 by rw [hw1]; simp only [World.size_alloc])
        rw [← hw1] at z1 z2 z3
        have Z1 := Aside0.mk z1
        have A1 := Aside0.mk z2
        have R1 := Aside0.mk (show w1.heap[w.heap.size + 1 + 1]? = some (.cells (arr yz) 25 (0, 0)) from z3)
        clear z1 z2 z3
        go_enter Try.func26, Try.ntmps26
        go_upto_region 1 with fail
        rw [← hw1]
        clear hw1
        go_upto_region 2 with (first
          | ((with_reducible refine gate_dst (N := 9) rfl ?_); refine load_row_event rfl 25 (.tmp 2) rfl w.heap.size rfl 25 (arr (y22 p0 p1 p2 cn)) _ Z1.out hu rfl hi ?_)
          | (go_at_call 39; (refine (partsOf_rows k p0 p1 p2 cn true _ H0.out).mono ?_); rintro e w2 ⟨U0, c0, U1, c1, U2, c2, s1, s2, rfl, hs12, hr0, hr1, hr2, hb⟩; have Z2 := Aside0.mk ((hb.block _ (lt_of_block Z1.out)).trans Z1.out); have A2 := Aside0.mk ((hb.block _ (lt_of_block A1.out)).trans A1.out); have R2 := Aside0.mk ((hb.block _ (lt_of_block R1.out)).trans R1.out); have B2 := Aside0.mk (below_step B1.out hb); have HS12 := Aside0.mk hs12; have HR0 := Aside0.mk (Kd.R_bound hr0); have HR1 := Aside0.mk (Kd.R_bound hr1); have HR2 := Aside0.mk (Kd.R_bound hr2); have HG := Aside0.mk (show w.heap.size + 3 ≤ w2.heap.size by have h1_ := HSZ.out; have h2_ := hb.size; omega); have HBP := Aside0.mk hb; clear hb hs12 hr0 hr1 hr2)
          | ((with_reducible refine gate_store (t := 62) (p := 6) rfl ?_); (refine store_row_event rfl rfl 62 (.tmp 6) (.tmp 11) rfl w2.heap.size #[.slice U0 (tw p0).length c0, .slice U1 (tw p1).length c1, .slice U2 (tw p2).length c2] rfl rfl 62 _ (blk_new w2 _) hip rfl (by kernel_rfl) ?_; intro wz hh ho; obtain ⟨w3, e3⟩ : ∃ w3, w3 = wz := ⟨_, rfl⟩; have X3 := Aside0.mk hh; have Z3 := Aside0.mk (ho.blk (by have h1_ := HG.out; omega) (blk_alloc Z2.out _)); have A3 := Aside0.mk (ho.blk (by have h1_ := HG.out; omega) (blk_alloc A2.out _)); have R3 := Aside0.mk (ho.blk (by have h1_ := HG.out; omega) (blk_alloc R2.out _)); have B3 := Aside0.mk (ho.below (below_alloc B2.out _) (by have h1_ := HG.out; omega)); have W3 := Aside0.mk (show Below w2.heap.size w2 wz from ho.below (below_alloc (Below.refl _ _) _) (Nat.le_refl _)); have HS3 := Aside0.mk (show wz.heap.size = w2.heap.size + 1 by rw [ho.size, World.size_alloc]); clear hh ho)))
        subst e3
        have q21 := y22_3 Z3.out
        have e1 := E1.out
        have hup2 := hup
        go_upto_region 5 with (first
          | ((with_reducible refine gate_dst (N := 22) rfl ?_); refine load_row_event rfl 62 (.tmp 6) rfl w2.heap.size rfl 62 #[.slice U0 (tw p0).length c0, .slice U1 (tw p1).length c1, .slice U2 (tw p2).length c2] _ X3.out hup rfl hip ?_)
          | ((with_reducible refine gate_dst (N := 23) rfl ?_); refine load_row_event rfl 49 (.tmp 3) rfl (w.heap.size + 1) rfl 49 #[.int .i64 kd, .int .i64 aa, .int .i64 bb] _ A3.out hua rfl hia ?_)
          | (go_at_call 43; (refine (iact_walk k w1.heap.size s1 s2 w2.heap.size U0 c0 (tw p0) U1 c1 (tw p1) U2 c2 (tw p2) kd aa bb none _ HS12.out (by have h1_ := W3.out.size; have h2_ := HBP.out.size; omega) (by have h1_ := HS3.out; omega) (Kd.R_mono (Kd.R_below HR0.out W3.out) (fun k_ hk => ⟨hk.1, by have h1_ := hk.2.2.1; omega⟩)) (Kd.R_mono (Kd.R_below HR1.out W3.out) (fun k_ hk => ⟨hk.1, by have h1_ := hk.2.2.1; omega⟩)) (Kd.R_mono (Kd.R_below HR2.out W3.out) (fun k_ hk => ⟨hk.1, by have h1_ := hk.2.2.1; omega⟩)) (tw_len p0) (tw_len p1) (tw_len p2) HM.out).mono ?_); rintro e w4 ⟨X0, n0, d0, X1, n1, d1, X2, n2, d2, rfl, har, hb, hgx⟩; have Z4 := Aside0.mk ((hb.block _ (by have h1_ := HSZ.out; omega)).trans Z3.out); have R4 := Aside0.mk ((hb.block _ (by have h1_ := HSZ.out; omega)).trans R3.out); have B4 := Aside0.mk (below_lower B3.out hb (by have h1_ := HSZ.out; omega)); have X4 := Aside0.mk (hgx.trans X3.out); have HAR := Aside0.mk har; have HG4 := Aside0.mk (show w2.heap.size < w4.heap.size by have h1_ := HS3.out; have h2_ := hb.size; omega); clear har hb hgx)
          | ((with_reducible refine gate_store (t := 62) (p := 6) rfl ?_); (refine store_row_event rfl rfl 62 (.tmp 6) (.tmp 25) rfl w2.heap.size #[.slice X0 n0 d0, .slice X1 n1 d1, .slice X2 n2 d2] rfl rfl 62 _ X4.out hip rfl (by kernel_rfl) ?_; intro wz hh ho; obtain ⟨w5, e5⟩ : ∃ w5, w5 = wz := ⟨_, rfl⟩; have X5 := Aside0.mk hh; have HS5 := Aside0.mk (show StaysG w1.heap.size w2.heap.size w4 wz from ⟨by rw [ho.size]; exact Nat.le_refl _, fun k_ _ _ hk => ho.other k_ hk⟩); have Z5 := Aside0.mk (ho.blk (by have h1_ := HG.out; omega) Z4.out); have R5 := Aside0.mk (ho.blk (by have h1_ := HG.out; omega) R4.out); have B5 := Aside0.mk (ho.below B4.out (by have h1_ := HG.out; omega)); clear hh ho)))
        subst e5
        clear q21
        go_wp2_with (first
          | ((with_reducible refine gate_dst (N := 29) rfl ?_); refine build_ev rfl 25 #[] rfl (arr yz) (by kernel_rfl) ?_)
          | ((with_reducible refine gate_store (t := 25) (p := 4) rfl ?_); (refine store_row_event rfl rfl 25 (.tmp 4) (.tmp 29) rfl (w.heap.size + 1 + 1) (arr yz) rfl rfl 25 _ R5.out hi rfl (by kernel_rfl) ?_; intro wz hh ho; have HEND := Aside0.mk hh; have BEND := Aside0.mk (ho.below B5.out (show w.heap.size ≤ w.heap.size + 1 + 1 by omega)); clear hh ho)))
        refine bodyPost_ret (v := .tuple #[.agg (arr yz), .bool false]) ?_ rfl ?_
        · exact results_list (rs := [.cell 4 25, .tmp 5]) rfl (by simp) (.cell (w.heap.size + 1 + 1) 25 (arr yz) (0, 0) _ rfl HEND.out hu rfl (by kernel_rfl) (.tmp .nil))
        · exact ⟨rfl, BEND.out⟩
      | some x =>
        have hu := Try.underlying25
        have hi : (Try.prog.info? 25).map (·.size) = some 22 := by kernel_rfl
        have hua := Try.underlying49
        have hia : (Try.prog.info? 49).map (·.size) = some 3 := by kernel_rfl
        have z1 := blk_alloc (blk_alloc (blk_new w (.cells (arr (y22 p0 p1 p2 cn)) 25)) (.cells #[.int .i64 kd, .int .i64 aa, .int .i64 bb] 49)) (.cells #[.int .i64 0, .int .i64 0, .int .i64 0, .int .i64 0, .int .i64 0, .int .i64 0, .int .i64 0, .int .i64 0, .int .i64 0, .int .i64 0, .int .i64 0, .int .i64 0, .int .i64 0, .int .i64 0, .int .i64 0, .int .i64 0, .int .i64 0, .int .i64 0, .int .i64 0, .int .i64 0, .int .i64 0, .int .i64 0] 25)
        have z2 := blk_alloc (blk_new (w.alloc (.cells (arr (y22 p0 p1 p2 cn)) 25)) (.cells #[.int .i64 kd, .int .i64 aa, .int .i64 bb] 49)) (.cells #[.int .i64 0, .int .i64 0, .int .i64 0, .int .i64 0, .int .i64 0, .int .i64 0, .int .i64 0, .int .i64 0, .int .i64 0, .int .i64 0, .int .i64 0, .int .i64 0, .int .i64 0, .int .i64 0, .int .i64 0, .int .i64 0, .int .i64 0, .int .i64 0, .int .i64 0, .int .i64 0, .int .i64 0, .int .i64 0] 25)
        have z3 := blk_new ((w.alloc (.cells (arr (y22 p0 p1 p2 cn)) 25)).alloc (.cells #[.int .i64 kd, .int .i64 aa, .int .i64 bb] 49)) (.cells #[.int .i64 0, .int .i64 0, .int .i64 0, .int .i64 0, .int .i64 0, .int .i64 0, .int .i64 0, .int .i64 0, .int .i64 0, .int .i64 0, .int .i64 0, .int .i64 0, .int .i64 0, .int .i64 0, .int .i64 0, .int .i64 0, .int .i64 0, .int .i64 0, .int .i64 0, .int .i64 0, .int .i64 0, .int .i64 0] 25)
        rw [World.size_alloc, World.size_alloc] at z3
        rw [World.size_alloc] at z2
        obtain ⟨w1, hw1⟩ : ∃ w1, w1 = ((w.alloc (.cells (arr (y22 p0 p1 p2 cn)) 25)).alloc (.cells #[.int .i64 kd, .int .i64 aa, .int .i64 bb] 49)).alloc (.cells #[.int .i64 0, .int .i64 0, .int .i64 0, .int .i64 0, .int .i64 0, .int .i64 0, .int .i64 0, .int .i64 0, .int .i64 0, .int .i64 0, .int .i64 0, .int .i64 0, .int .i64 0, .int .i64 0, .int .i64 0, .int .i64 0, .int .i64 0, .int .i64 0, .int .i64 0, .int .i64 0, .int .i64 0, .int .i64 0] 25) := ⟨_, rfl⟩
        have B1 := Aside0.mk (show Below w.heap.size w w1 by rw [hw1]; exact below_alloc (below_alloc (below_alloc (Below.refl _ _) _) _) _)
        have HSZ := Aside0.mk (show w1.heap.size = w.heap.size + 3 by rw [hw1]; simp only [World.size_alloc])
        rw [← hw1] at z1 z2 z3
        have Z1 := Aside0.mk z1
        have A1 := Aside0.mk z2
        have R1 := Aside0.mk (show w1.heap[w.heap.size + 1 + 1]? = some (.cells (arr yz) 25 (0, 0)) from z3)
        clear z1 z2 z3
        go_enter Try.func26, Try.ntmps26
        go_upto_region 1 with fail
        rw [← hw1]
        clear hw1
        go_upto_region 2 with (first
          | ((with_reducible refine gate_dst (N := 9) rfl ?_); refine load_row_event rfl 25 (.tmp 2) rfl w.heap.size rfl 25 (arr (y22 p0 p1 p2 cn)) _ Z1.out hu rfl hi ?_)
          | (go_at_call 39; (refine (partsOf_rows k p0 p1 p2 cn true _ H0.out).mono ?_); rintro e w2 ⟨U0, c0, U1, c1, U2, c2, s1, s2, rfl, hs12, hr0, hr1, hr2, hb⟩; have Z2 := Aside0.mk ((hb.block _ (lt_of_block Z1.out)).trans Z1.out); have A2 := Aside0.mk ((hb.block _ (lt_of_block A1.out)).trans A1.out); have R2 := Aside0.mk ((hb.block _ (lt_of_block R1.out)).trans R1.out); have B2 := Aside0.mk (below_step B1.out hb); have HS12 := Aside0.mk hs12; have HR0 := Aside0.mk (Kd.R_bound hr0); have HR1 := Aside0.mk (Kd.R_bound hr1); have HR2 := Aside0.mk (Kd.R_bound hr2); have HG := Aside0.mk (show w.heap.size + 3 ≤ w2.heap.size by have h1_ := HSZ.out; have h2_ := hb.size; omega); have HBP := Aside0.mk hb; clear hb hs12 hr0 hr1 hr2)
          | ((with_reducible refine gate_store (t := 62) (p := 6) rfl ?_); (refine store_row_event rfl rfl 62 (.tmp 6) (.tmp 11) rfl w2.heap.size #[.slice U0 (tw p0).length c0, .slice U1 (tw p1).length c1, .slice U2 (tw p2).length c2] rfl rfl 62 _ (blk_new w2 _) hip rfl (by kernel_rfl) ?_; intro wz hh ho; obtain ⟨w3, e3⟩ : ∃ w3, w3 = wz := ⟨_, rfl⟩; have X3 := Aside0.mk hh; have Z3 := Aside0.mk (ho.blk (by have h1_ := HG.out; omega) (blk_alloc Z2.out _)); have A3 := Aside0.mk (ho.blk (by have h1_ := HG.out; omega) (blk_alloc A2.out _)); have R3 := Aside0.mk (ho.blk (by have h1_ := HG.out; omega) (blk_alloc R2.out _)); have B3 := Aside0.mk (ho.below (below_alloc B2.out _) (by have h1_ := HG.out; omega)); have W3 := Aside0.mk (show Below w2.heap.size w2 wz from ho.below (below_alloc (Below.refl _ _) _) (Nat.le_refl _)); have HS3 := Aside0.mk (show wz.heap.size = w2.heap.size + 1 by rw [ho.size, World.size_alloc]); clear hh ho)))
        subst e3
        have q21 := y22_3 Z3.out
        have e1 := E1.out
        have hup2 := hup
        go_upto_region 5 with (first
          | ((with_reducible refine gate_dst (N := 22) rfl ?_); refine load_row_event rfl 62 (.tmp 6) rfl w2.heap.size rfl 62 #[.slice U0 (tw p0).length c0, .slice U1 (tw p1).length c1, .slice U2 (tw p2).length c2] _ X3.out hup rfl hip ?_)
          | ((with_reducible refine gate_dst (N := 23) rfl ?_); refine load_row_event rfl 49 (.tmp 3) rfl (w.heap.size + 1) rfl 49 #[.int .i64 kd, .int .i64 aa, .int .i64 bb] _ A3.out hua rfl hia ?_)
          | (go_at_call 43; (refine (iact_walk k w1.heap.size s1 s2 w2.heap.size U0 c0 (tw p0) U1 c1 (tw p1) U2 c2 (tw p2) kd aa bb (some x) _ HS12.out (by have h1_ := W3.out.size; have h2_ := HBP.out.size; omega) (by have h1_ := HS3.out; omega) (Kd.R_mono (Kd.R_below HR0.out W3.out) (fun k_ hk => ⟨hk.1, by have h1_ := hk.2.2.1; omega⟩)) (Kd.R_mono (Kd.R_below HR1.out W3.out) (fun k_ hk => ⟨hk.1, by have h1_ := hk.2.2.1; omega⟩)) (Kd.R_mono (Kd.R_below HR2.out W3.out) (fun k_ hk => ⟨hk.1, by have h1_ := hk.2.2.1; omega⟩)) (tw_len p0) (tw_len p1) (tw_len p2) HM.out).mono ?_); rintro e w4 ⟨X0, n0, d0, X1, n1, d1, X2, n2, d2, rfl, har, hb, hgx⟩; have Z4 := Aside0.mk ((hb.block _ (by have h1_ := HSZ.out; omega)).trans Z3.out); have R4 := Aside0.mk ((hb.block _ (by have h1_ := HSZ.out; omega)).trans R3.out); have B4 := Aside0.mk (below_lower B3.out hb (by have h1_ := HSZ.out; omega)); have X4 := Aside0.mk (hgx.trans X3.out); have HAR := Aside0.mk har; have HG4 := Aside0.mk (show w2.heap.size < w4.heap.size by have h1_ := HS3.out; have h2_ := hb.size; omega); clear har hb hgx)
          | ((with_reducible refine gate_store (t := 62) (p := 6) rfl ?_); (refine store_row_event rfl rfl 62 (.tmp 6) (.tmp 25) rfl w2.heap.size #[.slice X0 n0 d0, .slice X1 n1 d1, .slice X2 n2 d2] rfl rfl 62 _ X4.out hip rfl (by kernel_rfl) ?_; intro wz hh ho; obtain ⟨w5, e5⟩ : ∃ w5, w5 = wz := ⟨_, rfl⟩; have X5 := Aside0.mk hh; have HS5 := Aside0.mk (show StaysG w1.heap.size w2.heap.size w4 wz from ⟨by rw [ho.size]; exact Nat.le_refl _, fun k_ _ _ hk => ho.other k_ hk⟩); have Z5 := Aside0.mk (ho.blk (by have h1_ := HG.out; omega) Z4.out); have R5 := Aside0.mk (ho.blk (by have h1_ := HG.out; omega) R4.out); have B5 := Aside0.mk (ho.below B4.out (by have h1_ := HG.out; omega)); clear hh ho)))
        subst e5
        clear q21
        have q21 := y22_3 Z5.out
        obtain ⟨c9, hc9⟩ : ∃ c9 : Int, cn + 1 = c9 := ⟨_, rfl⟩
        have HC9 := Aside0.mk hc9
        have hcA := HC.out.1
        have hcB := HC.out.2
        obtain ⟨yy, hyy⟩ : ∃ yy, yy = y22 (rdf x.1) (rdf x.2.1) (rdf x.2.2) c9 := ⟨_, rfl⟩
        have HYY := Aside0.mk hyy
        have hsz : (arr yy).size = 22 := by rw [hyy]; rfl
        have h1c : (arr yy).all (·.oneCell') = true := by rw [hyy]; kernel_rfl
        have HSY := Aside0.mk hsz
        have H1Y := Aside0.mk h1c
        clear hyy hsz h1c
        go_wp2_with (first
          | ((with_reducible refine gate_dst (N := 30) rfl ?_); refine load_row_event rfl 62 (.tmp 6) rfl w2.heap.size rfl 62 #[.slice X0 n0 d0, .slice X1 n1 d1, .slice X2 n2 d2] _ X5.out hup rfl hip ?_)
          | (go_at_call 35; (refine (yard_walk2 X0 n0 d0 x.1 X1 n1 d1 x.2.1 X2 n2 d2 x.2.2 c9 w1.heap.size w2.heap.size w4 _ (HAR.out x rfl).1 (HAR.out x rfl).2.1 (HAR.out x rfl).2.2 HS5.out).mono ?_); rw [← HYY.out]; rintro e w6 ⟨rfl, hb⟩; have R6 := Aside0.mk ((hb.block _ (lt_of_block R5.out)).trans R5.out); have B6 := Aside0.mk (below_step B5.out hb); clear hb)
          | ((with_reducible refine gate_store (t := 25) (p := 4) rfl ?_); (refine store_row_event rfl rfl 25 (.tmp 4) (.tmp 34) rfl (w.heap.size + 1 + 1) (arr yy) rfl rfl 25 _ R6.out (by rw [HSY.out]; exact hi) (by rw [HSY.out]; rfl) H1Y.out ?_; intro wz hh ho; have HEND := Aside0.mk hh; have BEND := Aside0.mk (ho.below B6.out (show w.heap.size ≤ w.heap.size + 1 + 1 by omega)); clear hh ho)))
        refine bodyPost_ret (v := .tuple #[.agg (arr yy), .bool true]) ?_ rfl ?_
        · exact results_list (rs := [.cell 4 25, .tmp 5]) rfl (by simp) (.cell (w.heap.size + 1 + 1) 25 (arr yy) (0, 0) _ rfl HEND.out hu rfl (by rw [HSY.out]; exact hi) (.tmp .nil))
        · exact ⟨by rw [HYY.out, ← HC9.out]; rfl, BEND.out⟩

end Go.Proofs.Ythokeoocdkaffaa.Xl
