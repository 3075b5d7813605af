/- A copy of a yard; whether it is one: the reference and the program. -/
import Derived.Test.YtdeklpmmdakbeaaDoorZvXv0
import Derived.Test.YtdeklpmmdakbeaaDoorZvXvHarr7
import Derived.Test.YtdeklpmmdakbeaaDoorZvXvHgood
import Derived.Test.YtdeklpmmdakbeaaDoorZvXvHparts
import Derived.OneCell
import Derived.Lib.SliceRun
import Derived.Shelf.Abstract
import Derived.Outline
import Derived.BigQuiet
import Derived.Deep.QuietTactic
import Derived.RegionTactic
import Derived.BigRegion
namespace Go.Proofs.YtdeklpmmdakbeaaDoor.Xv
open Go.RowKit Go.Proofs.YtdeklpmmdakbeaaDoorW.PrintWords Go.Proofs.YtdeklpmmdakbeaaDoorW.PrintLast Go.Proofs.YtdeklpmmdakbeaaDoorW.PrintMore
attribute [local go_sem] max2_int min2_int max_two min_two max_three min_three max_four min_four
set_option linter.unusedVariables false
set_option linter.unusedSimpArgs false
theorem store7_event {ops : Array Oper} {rest : List Oper} {o : Oper} {a : Act} {Q : Exit → Act → World → Prop} {W : World} (hgd : o.guard = none) (hN : o.dst = none) (x y : Operand) (ho : o.op = .store 22 x y) (b off : Nat) (p : Nat → Int) (L R : List Int)
    (hx : a.eval x = .pointer (some ⟨b, off, none⟩)) (hy : a.eval y = .agg (arr (m7 p))) (e : TypeId) (hh : W.heap[b]? = some (.cells (arr (L ++ List.replicate 7 0 ++ R)) e (0, 0))) (hl : L.length = off)
    (h : ∀ w2, w2.heap[b]? = some (.cells (arr (L ++ m7 p ++ R)) e (0, 0)) → Only W w2 b → wpList Tryd.prog ops Q rest a w2) : wpList Tryd.prog ops Q (o :: rest) a W := by
  refine wpList_plain hgd fun K hK => ?_
  have hsz : (arr (L ++ List.replicate 7 0 ++ R)).size = off + 7 + R.length := by simp only [arr, List.size_toArray, List.length_map, List.length_append, List.length_replicate, hl]
  have hlen : ((m7 p).map (Value.int .i64)).length = 7 := rfl
  have hr := run_store_run (P := Tryd.prog) (w := W) (g := b) (o := off) 22 (.agg (arr (m7 p))) ((m7 p).map (Value.int .i64)) (e := e) (cur := arr (L ++ List.replicate 7 0 ++ R)) hh (by simp [Value.cells, arr]) (by kernel_rfl) (by rw [hsz, hlen]; omega) (fun q hq => by
    obtain ⟨z, _, rfl⟩ := List.mem_map.1 hq
    rfl)
  obtain ⟨cur', e1, e2, e3⟩ := setCells_row ((m7 p).map (Value.int .i64)) off W _ hh (by rw [hsz, hlen]; omega)
  obtain ⟨s1, s2, s3, s4⟩ := setCells_same b ((m7 p).map (Value.int .i64)) off W
  unfold Oper.wp execOp
  simp only [ho, hx, hy, Sem.run_bind, hr, Result.andThen_ok, Sem.run_pure]
  show K (a.put o.dst undef) _
  rw [hN]
  have h0 : (arr (L ++ List.replicate 7 0 ++ R)).toList = L.map (Value.int .i64) ++ (List.replicate 7 (Value.int .i64 0) ++ R.map (Value.int .i64)) := by simp only [arr, List.map_append, List.map_replicate, List.append_assoc]
  have hL : (L.map (Value.int .i64)).length = off := by rw [List.length_map]; exact hl
  have hcur : cur'.toList = (arr (L ++ m7 p ++ R)).toList := by
    rw [e3, hlen, h0, List.take_left' hL, ← List.drop_drop, List.drop_left' hL, List.drop_left' List.length_replicate]
    simp only [arr, List.map_append, List.append_assoc]
  rw [Array.toList_inj.1 hcur] at e1
  exact hK _ _ (h _ e1 ⟨s1, s2, s3, s4, fun k hk => setCells_far _ _ k hk⟩)
set_option maxHeartbeats 8000000 in
set_option maxRecDepth 100000 in
theorem toYard_walk (p0 p1 p2 : Nat → Int) (cn : Int) (w : World) :
    Calls Tryd.prog 11 #[.agg (arr (y22 p0 p1 p2 cn))] w fun e w' => e = .returned (.agg (arr (y22 p0 p1 p2 cn))) ∧ Below w.heap.size w w' := by
  have hu := Tryd.underlying31
  have hi : (Tryd.prog.info? 31).map (·.size) = some 22 := by kernel_rfl
  have z1 := blk_new w (.cells (arr (y22 p0 p1 p2 cn)) 24)
  have z2 := blk_new (w.alloc (.cells (arr (y22 p0 p1 p2 cn)) 24)) (.cells #[.int .i64 0, .int .i64 0, .int .i64 0, .int .i64 0, .int .i64 0, .int .i64 0, .int .i64 0, .int .i64 0, .int .i64 0, .int .i64 0, .int .i64 0, .int .i64 0, .int .i64 0, .int .i64 0, .int .i64 0, .int .i64 0, .int .i64 0, .int .i64 0, .int .i64 0, .int .i64 0, .int .i64 0, .int .i64 0] 31)
  have z3 := blk_new ((w.alloc (.cells (arr (y22 p0 p1 p2 cn)) 24)).alloc (.cells #[.int .i64 0, .int .i64 0, .int .i64 0, .int .i64 0, .int .i64 0, .int .i64 0, .int .i64 0, .int .i64 0, .int .i64 0, .int .i64 0, .int .i64 0, .int .i64 0, .int .i64 0, .int .i64 0, .int .i64 0, .int .i64 0, .int .i64 0, .int .i64 0, .int .i64 0, .int .i64 0, .int .i64 0, .int .i64 0] 31)) (.cells #[.int .i64 0, .int .i64 0, .int .i64 0, .int .i64 0, .int .i64 0, .int .i64 0, .int .i64 0, .int .i64 0, .int .i64 0, .int .i64 0, .int .i64 0, .int .i64 0, .int .i64 0, .int .i64 0, .int .i64 0, .int .i64 0, .int .i64 0, .int .i64 0, .int .i64 0, .int .i64 0, .int .i64 0, .int .i64 0] 31)
  rw [World.size_alloc, World.size_alloc] at z3
  rw [World.size_alloc] at z2
  have Z1 := Aside0.mk (blk_alloc (blk_alloc z1 (.cells #[.int .i64 0, .int .i64 0, .int .i64 0, .int .i64 0, .int .i64 0, .int .i64 0, .int .i64 0, .int .i64 0, .int .i64 0, .int .i64 0, .int .i64 0, .int .i64 0, .int .i64 0, .int .i64 0, .int .i64 0, .int .i64 0, .int .i64 0, .int .i64 0, .int .i64 0, .int .i64 0, .int .i64 0, .int .i64 0] 31)) (.cells #[.int .i64 0, .int .i64 0, .int .i64 0, .int .i64 0, .int .i64 0, .int .i64 0, .int .i64 0, .int .i64 0, .int .i64 0, .int .i64 0, .int .i64 0, .int .i64 0, .int .i64 0, .int .i64 0, .int .i64 0, .int .i64 0, .int .i64 0, .int .i64 0, .int .i64 0, .int .i64 0, .int .i64 0, .int .i64 0] 31))
  have R1 := Aside0.mk (blk_alloc z2 (.cells #[.int .i64 0, .int .i64 0, .int .i64 0, .int .i64 0, .int .i64 0, .int .i64 0, .int .i64 0, .int .i64 0, .int .i64 0, .int .i64 0, .int .i64 0, .int .i64 0, .int .i64 0, .int .i64 0, .int .i64 0, .int .i64 0, .int .i64 0, .int .i64 0, .int .i64 0, .int .i64 0, .int .i64 0, .int .i64 0] 31))
  have YE : arr ([] ++ List.replicate 7 0 ++ (List.replicate 7 0 ++ List.replicate 7 0 ++ [0])) = #[.int .i64 0, .int .i64 0, .int .i64 0, .int .i64 0, .int .i64 0, .int .i64 0, .int .i64 0, .int .i64 0, .int .i64 0, .int .i64 0, .int .i64 0, .int .i64 0, .int .i64 0, .int .i64 0, .int .i64 0, .int .i64 0, .int .i64 0, .int .i64 0, .int .i64 0, .int .i64 0, .int .i64 0, .int .i64 0] := by simp [arr, List.replicate]
  rw [← YE] at z3
  have Y1 := Aside0.mk z3
  have B1 := Aside0.mk (below_alloc (below_alloc (below_alloc (Below.refl w.heap.size w) (.cells (arr (y22 p0 p1 p2 cn)) 24)) (.cells #[.int .i64 0, .int .i64 0, .int .i64 0, .int .i64 0, .int .i64 0, .int .i64 0, .int .i64 0, .int .i64 0, .int .i64 0, .int .i64 0, .int .i64 0, .int .i64 0, .int .i64 0, .int .i64 0, .int .i64 0, .int .i64 0, .int .i64 0, .int .i64 0, .int .i64 0, .int .i64 0, .int .i64 0, .int .i64 0] 31)) (.cells #[.int .i64 0, .int .i64 0, .int .i64 0, .int .i64 0, .int .i64 0, .int .i64 0, .int .i64 0, .int .i64 0, .int .i64 0, .int .i64 0, .int .i64 0, .int .i64 0, .int .i64 0, .int .i64 0, .int .i64 0, .int .i64 0, .int .i64 0, .int .i64 0, .int .i64 0, .int .i64 0, .int .i64 0, .int .i64 0] 31))
  have S1 := Aside0.mk (rfl : (1 : Nat) = 1)
  have S2 := Aside0.mk (rfl : (1 : Nat) = 1)
  have S3 := Aside0.mk (rfl : (1 : Nat) = 1)
  clear z1 z2 z3
  rw [YE] at Y1
  rw [← YE] at Y1
  clear YE
  go_enter Tryd.func11, Tryd.ntmps11
  go_upto_region 5 with (first
    | ((with_reducible refine gate_dst (N := 5) rfl ?_); refine Kd.event_run rfl (execLoad (addr := .pointer (some ⟨w.heap.size, 0, none⟩)) (v := .agg (arr (m7 p0))) rfl rfl (load7 (by have h_ := Z1.out; rw [y22_0] at h_; exact h_) (by rfl))) ?_)
    | (go_at_call 21; clear S1; (refine (laws_toIntA7_walk p0 _).mono ?_); rintro e w2 ⟨rfl, hb⟩; have Y2 := Aside0.mk ((hb.block _ (lt_of_block Y1.out)).trans Y1.out); have Z2 := Aside0.mk ((hb.block _ (lt_of_block Z1.out)).trans Z1.out); have R2 := Aside0.mk ((hb.block _ (lt_of_block R1.out)).trans R1.out); have B2 := Aside0.mk (below_step B1.out hb); clear hb)
    | ((with_reducible refine gate_store (t := 22) (p := 7) rfl ?_); refine store7_event rfl rfl (.tmp 7) (.tmp 6) rfl (w.heap.size + 1 + 1) 0 p0 [] (List.replicate 7 0 ++ List.replicate 7 0 ++ [0]) rfl rfl 31 Y2.out (by rfl) ?_; intro w3 hh ho; have Y3 := Aside0.mk hh; have Z3 := Aside0.mk (ho.blk (by omega) Z2.out); have R3 := Aside0.mk (ho.blk (by omega) R2.out); have B3 := Aside0.mk (ho.below B2.out (by omega)); clear hh ho)
    | ((with_reducible refine gate_dst (N := 9) rfl ?_); refine Kd.event_run rfl (execLoad (addr := .pointer (some ⟨w.heap.size, 7, none⟩)) (v := .agg (arr (m7 p1))) rfl rfl (load7 (by have h_ := Z3.out; rw [y22_1] at h_; exact h_) (by rfl))) ?_)
    | (go_at_call 21; clear S2; (refine (laws_toIntA7_walk p1 _).mono ?_); rintro e w4 ⟨rfl, hb⟩; have Y4 := Aside0.mk ((hb.block _ (lt_of_block Y3.out)).trans Y3.out); have Z4 := Aside0.mk ((hb.block _ (lt_of_block Z3.out)).trans Z3.out); have R4 := Aside0.mk ((hb.block _ (lt_of_block R3.out)).trans R3.out); have B4 := Aside0.mk (below_step B3.out hb); clear hb)
    | ((with_reducible refine gate_store (t := 22) (p := 11) rfl ?_); refine store7_event rfl rfl (.tmp 11) (.tmp 10) rfl (w.heap.size + 1 + 1) 7 p1 (m7 p0) (List.replicate 7 0 ++ [0]) rfl rfl 31 (by have h_ := Y4.out; (try simp only [List.append_assoc, List.nil_append] at h_); (try simp only [List.append_assoc, List.nil_append]); exact h_) (by rfl) ?_; intro w5 hh ho; have Y5 := Aside0.mk hh; have Z5 := Aside0.mk (ho.blk (by omega) Z4.out); have R5 := Aside0.mk (ho.blk (by omega) R4.out); have B5 := Aside0.mk (ho.below B4.out (by omega)); clear hh ho)
    | ((with_reducible refine gate_dst (N := 13) rfl ?_); refine Kd.event_run rfl (execLoad (addr := .pointer (some ⟨w.heap.size, 14, none⟩)) (v := .agg (arr (m7 p2))) rfl rfl (load7 (by have h_ := Z5.out; rw [y22_2] at h_; exact h_) (by rfl))) ?_)
    | (go_at_call 21; clear S3; (refine (laws_toIntA7_walk p2 _).mono ?_); rintro e w6 ⟨rfl, hb⟩; have Y6 := Aside0.mk ((hb.block _ (lt_of_block Y5.out)).trans Y5.out); have Z6 := Aside0.mk ((hb.block _ (lt_of_block Z5.out)).trans Z5.out); have R6 := Aside0.mk ((hb.block _ (lt_of_block R5.out)).trans R5.out); have B6 := Aside0.mk (below_step B5.out hb); clear hb)
    | ((with_reducible refine gate_store (t := 22) (p := 15) rfl ?_); refine store7_event rfl rfl (.tmp 15) (.tmp 14) rfl (w.heap.size + 1 + 1) 14 p2 (m7 p0 ++ m7 p1) [0] rfl rfl 31 (by have h_ := Y6.out; (try simp only [List.append_assoc, List.nil_append] at h_); (try simp only [List.append_assoc, List.nil_append]); exact h_) (by rfl) ?_; intro w7 hh ho; have Y7 := Aside0.mk hh; have Z7 := Aside0.mk (ho.blk (by omega) Z6.out); have R7 := Aside0.mk (ho.blk (by omega) R6.out); have B7 := Aside0.mk (ho.below B6.out (by omega)); clear hh ho))
  have HC21 : w7.cell? ⟨w.heap.size, 21, none⟩ = some (.int .i64 cn) := y22_3 Z7.out
  have HD21 : w7.cell? ⟨w.heap.size + 1 + 1, 21, none⟩ = some (.int .i64 0) := by rw [blk_cell Y7.out]; rfl
  have HF21 := blk_frozen Y7.out 21
  have Y8 := Aside0.mk (blk_put Y7.out 21 (.int .i64 cn) (show _ = arr (y22 p0 p1 p2 cn) from rfl))
  have R8 := Aside0.mk (blk_far R7.out (p := ⟨w.heap.size + 1 + 1, 21, none⟩) (by show w.heap.size + 1 ≠ w.heap.size + 1 + 1; omega) (.int .i64 cn))
  have B8 := Aside0.mk (below_set (j := 21) (v := .int .i64 cn) B7.out (show w.heap.size ≤ w.heap.size + 1 + 1 by omega))
  go_wp2_with (first
    | ((with_reducible refine gate_dst (N := 19) rfl ?_); refine load_row_event rfl 31 (.tmp 3) rfl (w.heap.size + 1 + 1) rfl 31 (arr (y22 p0 p1 p2 cn)) _ Y8.out hu rfl hi ?_)
    | ((with_reducible refine gate_store (t := 31) (p := 2) rfl ?_); refine store_row_event rfl rfl 31 (.tmp 2) (.tmp 19) rfl (w.heap.size + 1) (arr (y22 p0 p1 p2 cn)) rfl rfl 31 _ R8.out hi rfl (by kernel_rfl) ?_; intro w9 hh ho; have Y9 := Aside0.mk hh; have B9 := Aside0.mk (ho.below B8.out (by omega)); clear hh ho)
    | fail)
  refine bodyPost_ret (v := .agg (arr (y22 p0 p1 p2 cn))) ?_ rfl ?_
  · exact results_single (r := .cell 2 31) rfl (.cell (w.heap.size + 1) 31 (arr (y22 p0 p1 p2 cn)) (0, 0) _ rfl Y9.out hu rfl (by kernel_rfl) .nil)
  · exact ⟨rfl, B9.out⟩
set_option maxHeartbeats 8000000 in
set_option maxRecDepth 100000 in
theorem implIsYard_walk (k : Nat) (p0 p1 p2 : Nat → Int) (cn : Int) (r : Bool) (w : World) (h : partsF k p0 p1 p2 cn = some r) :
    Calls Tryd.prog 13 #[.agg (arr (y22 p0 p1 p2 cn))] w fun e w' => e = .returned (.bool r) ∧ Below w.heap.size w w' := by
  have hu := Tryd.underlying31
  have hi : (Tryd.prog.info? 31).map (·.size) = some 22 := by kernel_rfl
  have hi62 : (Tryd.prog.info? 53).map (·.size) = some 3 := by kernel_rfl
  have H := Aside0.mk h
  have Z1 := Aside0.mk (blk_new w (.cells (arr (y22 p0 p1 p2 cn)) 31))
  have B1 := Aside0.mk (below_alloc (Below.refl w.heap.size w) (.cells (arr (y22 p0 p1 p2 cn)) 31))
  clear h
  go_enter Tryd.func13, Tryd.ntmps13
  go_wp2_with (first
    | ((with_reducible refine gate_dst (N := 6) rfl ?_); refine load_row_event rfl 31 (.tmp 1) rfl w.heap.size rfl 31 (arr (y22 p0 p1 p2 cn)) _ Z1.out hu rfl hi ?_)
    | (go_at_call 22; (refine (partsOf_walk k p0 p1 p2 cn r _ H.out).mono ?_); rintro e w2 ⟨v2, rfl, ⟨cs2, rfl, hs2, ho2⟩, hb⟩; have B2 := Aside0.mk (below_step B1.out hb); have HS2 := Aside0.mk hs2; have HO2 := Aside0.mk ho2; clear hb hs2 ho2)
    | ((with_reducible refine gate_store (t := 53) (p := 3) rfl ?_); refine store_row_event rfl rfl 53 (.tmp 3) (.tmp 8) rfl w2.heap.size cs2 rfl rfl 53 _ (blk_new w2 _) (by rw [HS2.out]; exact hi62) (by rw [HS2.out]; rfl) HO2.out ?_; intro w3 hh ho; have B3 := Aside0.mk (ho.below (below_alloc B2.out _) B2.out.size); clear hh ho))
  go_ret
  exact ⟨rfl, B3.out⟩


end Go.Proofs.YtdeklpmmdakbeaaDoor.Xv
