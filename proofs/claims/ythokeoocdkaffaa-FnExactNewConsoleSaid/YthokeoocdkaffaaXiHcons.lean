/- A console of a yard: the reference and the program. -/
import Derived.Test.YthokeoocdkaffaaXi0
import Derived.Test.YthokeoocdkaffaaXi6
import Derived.Test.YthokeoocdkaffaaXiHarr7
import Derived.Test.YthokeoocdkaffaaXiHgood
import Derived.Test.YthokeoocdkaffaaXiHtoy
import Derived.OneCell
import Derived.Lib.SliceRun
import Derived.Shelf.Abstract
import Derived.Outline
import Derived.BigQuiet
import Derived.Deep.QuietTactic
import Derived.RegionTactic
import Derived.BigRegion
namespace Go.Proofs.Ythokeoocdkaffaa.Xi
open Go.RowKit Go.Proofs.YthokeoocdkaffaaW.PrintWords Go.Proofs.YthokeoocdkaffaaW.PrintLast Go.Proofs.YthokeoocdkaffaaW.PrintMore
attribute [local go_sem] max2_int min2_int max_two min_two max_three min_three max_four min_four
set_option linter.unusedVariables false
set_option linter.unusedSimpArgs false
def C25l (p0 p1 p2 : Nat → Int) (cn : Int) : List Value := (y22 p0 p1 p2 cn).map (Value.int .i64) ++ [.string ByteArray.empty, .string ByteArray.empty, .int .i64 0]
/-- The cells of a console with an empty log. -/
def C25 (p0 p1 p2 : Nat → Int) (cn : Int) : Array Value := (C25l p0 p1 p2 cn).toArray
def conC (b : Bool) (p0 p1 p2 : Nat → Int) (cn : Int) : Array Value := match b with
  | true => C25 p0 p1 p2 cn
  | false => C25 (fun _ => 0) (fun _ => 0) (fun _ => 0) 0
theorem build_event {P : Program} {ops : Array Oper} {rest : List Oper} {o : Oper} {a : Act} {w : World} {Q : Exit → Act → World → Prop} (hg : o.guard = none) (t : TypeId) (parts : Array (Nat × Operand)) (ho : o.op = .build t parts) (cs : Array Value)
    (hv : P.built t (parts.map fun (i, x) => (i, a.eval x)).toList = some cs) (h : wpList P ops Q rest (a.put o.dst (.agg cs)) w) : wpList P ops Q (o :: rest) a w :=
  wpList_build hg t parts ho (by rw [hv]; rfl) (by rw [hv]; exact h)
/-- The load of some cells in a row, as one value. -/
theorem loadSeg {P : Program} {W : World} {t e : TypeId} {b off n : Nat} {pre seg post : List Value} (hagg : (isAgg t).run P W = .ok true W) (hsz : (sizeOf t).run P W = .ok n W) (hn : seg.length = n) (hl : pre.length = off) (h : W.heap[b]? = some (.cells (pre ++ seg ++ post).toArray e (0, 0))) : (Instr.loadAt t (.pointer (some ⟨b, off, none⟩))).run P W = .ok (.agg seg.toArray) W := by
  have hlc : (loadCells ⟨b, off, none⟩ seg.length).run P W = .ok seg.toArray W := run_loadCells_list (P := P) (w := W) ⟨b, off, none⟩ seg (fun j v hv => by
    have hadd : (⟨b, off, none⟩ : Addr).add j = ⟨b, off + j, none⟩ := by unfold Addr.add; split <;> simp_all
    rw [hadd, blk_cell h, List.getElem?_toArray, List.append_assoc, List.getElem?_append_right (by omega), hl, Nat.add_sub_cancel_left]
    rw [List.getElem?_append_left (by rcases Nat.lt_or_ge j seg.length with h_ | h_; exact h_; rw [List.getElem?_eq_none h_] at hv; cases hv)]
    exact hv)
  simp only [Instr.loadAt, Instr.sureAddr, loadVar, Sem.run_bind, Sem.run_pure, Result.andThen_ok, hagg, hsz, ↓reduceIte]
  rw [← hn, hlc]
  rfl
set_option maxHeartbeats 8000000 in
set_option maxRecDepth 100000 in
theorem specNewConsole_walk (k : Nat) (p0 p1 p2 : Nat → Int) (cn : Int) (r : Bool) (w : World) (h : goodF k p0 p1 p2 cn = some r) :
    Calls Try.prog 21 #[.agg (arr (y22 p0 p1 p2 cn))] w fun e w' => e = .returned (.tuple #[.agg (conC r p0 p1 p2 cn), .bool r]) ∧ Below w.heap.size w w' := by
  have hu := Try.underlying25
  have hi : (Try.prog.info? 25).map (·.size) = some 22 := by kernel_rfl
  have huc := Try.underlying42
  have hic : (Try.prog.info? 42).map (·.size) = some 25 := by kernel_rfl
  have H := Aside0.mk h
  have z1 := blk_new w (.cells (arr (y22 p0 p1 p2 cn)) 25)
  have z2 := blk_new (w.alloc (.cells (arr (y22 p0 p1 p2 cn)) 25)) (.cells (C25 (fun _ => 0) (fun _ => 0) (fun _ => 0) 0) 42)
  rw [World.size_alloc] at z2
  have Z1 := Aside0.mk (blk_alloc z1 (.cells (C25 (fun _ => 0) (fun _ => 0) (fun _ => 0) 0) 42))
  have R1 := Aside0.mk z2
  have B1 := Aside0.mk (below_alloc (below_alloc (Below.refl w.heap.size w) (.cells (arr (y22 p0 p1 p2 cn)) 25)) (.cells (C25 (fun _ => 0) (fun _ => 0) (fun _ => 0) 0) 42))
  clear h z1 z2
  cases r with
  | true =>
      go_enter Try.func21, Try.ntmps21
      go_wp2_with (first
        | ((with_reducible refine gate_dst (N := 4) rfl ?_); refine load_row_event rfl 25 (.tmp 1) rfl w.heap.size rfl 25 (arr (y22 p0 p1 p2 cn)) _ Z1.out hu rfl hi ?_)
        | (go_at_call 37; (refine (l12Good_walk k p0 p1 p2 cn true _ H.out).mono ?_); rintro e w2 ⟨rfl, hb⟩; have B2 := Aside0.mk (below_step B1.out hb); have Z2 := Aside0.mk ((hb.block _ (lt_of_block Z1.out)).trans Z1.out); have R2 := Aside0.mk ((hb.block _ (lt_of_block R1.out)).trans R1.out); clear hb)
        | ((with_reducible refine gate_dst (N := 8) rfl ?_); refine load_row_event rfl 25 (.tmp 1) rfl w.heap.size rfl 25 (arr (y22 p0 p1 p2 cn)) _ Z2.out hu rfl hi ?_)
        | ((with_reducible refine gate_dst (N := 9) rfl ?_); refine build_event rfl 42 #[(0, .tmp 8)] rfl (C25 p0 p1 p2 cn) (by kernel_rfl) ?_)
        | ((with_reducible refine gate_store (t := 42) (p := 2) rfl ?_); refine store_row_event rfl rfl 42 (.tmp 2) (.tmp 9) rfl (w.heap.size + 1) (C25 p0 p1 p2 cn) rfl rfl 42 _ R2.out hic rfl (by kernel_rfl) ?_; intro w3 hh ho; have Y3 := Aside0.mk hh; have B3 := Aside0.mk (ho.below B2.out (by omega)); clear hh ho))
      refine bodyPost_ret (v := .tuple #[.agg (C25 p0 p1 p2 cn), .bool true]) ?_ rfl ?_
      · exact results_list (rs := [.cell 2 42, .tmp 3]) rfl (by simp) (.cell (w.heap.size + 1) 42 (C25 p0 p1 p2 cn) (0, 0) _ rfl Y3.out huc rfl (by kernel_rfl) (.tmp .nil))
      · exact ⟨rfl, B3.out⟩
  | false =>
      go_enter Try.func21, Try.ntmps21
      go_wp2_with (first
        | ((with_reducible refine gate_dst (N := 4) rfl ?_); refine load_row_event rfl 25 (.tmp 1) rfl w.heap.size rfl 25 (arr (y22 p0 p1 p2 cn)) _ Z1.out hu rfl hi ?_)
        | (go_at_call 37; (refine (l12Good_walk k p0 p1 p2 cn false _ H.out).mono ?_); rintro e w2 ⟨rfl, hb⟩; have B2 := Aside0.mk (below_step B1.out hb); have Z2 := Aside0.mk ((hb.block _ (lt_of_block Z1.out)).trans Z1.out); have R2 := Aside0.mk ((hb.block _ (lt_of_block R1.out)).trans R1.out); clear hb)
        | ((with_reducible refine gate_dst (N := 7) rfl ?_); refine build_event rfl 42 #[] rfl (C25 (fun _ => 0) (fun _ => 0) (fun _ => 0) 0) (by kernel_rfl) ?_)
        | ((with_reducible refine gate_store (t := 42) (p := 2) rfl ?_); refine store_row_event rfl rfl 42 (.tmp 2) (.tmp 7) rfl (w.heap.size + 1) (C25 (fun _ => 0) (fun _ => 0) (fun _ => 0) 0) rfl rfl 42 _ R2.out hic rfl (by kernel_rfl) ?_; intro w3 hh ho; have Y3 := Aside0.mk hh; have B3 := Aside0.mk (ho.below B2.out (by omega)); clear hh ho))
      refine bodyPost_ret (v := .tuple #[.agg (C25 (fun _ => 0) (fun _ => 0) (fun _ => 0) 0), .bool false]) ?_ rfl ?_
      · exact results_list (rs := [.cell 2 42, .tmp 3]) rfl (by simp) (.cell (w.heap.size + 1) 42 (C25 (fun _ => 0) (fun _ => 0) (fun _ => 0) 0) (0, 0) _ rfl Y3.out huc rfl (by kernel_rfl) (.tmp .nil))
      · exact ⟨rfl, B3.out⟩
set_option maxHeartbeats 8000000 in
set_option maxRecDepth 100000 in
theorem implNewConsole_walk (k : Nat) (p0 p1 p2 : Nat → Int) (cn : Int) (r : Bool) (w : World) (h : partsF k p0 p1 p2 cn = some r) :
    Calls Try.prog 22 #[.agg (arr (y22 p0 p1 p2 cn))] w fun e w' => e = .returned (.tuple #[.agg (conC r p0 p1 p2 cn), .bool r]) ∧ Below w.heap.size w w' := by
  have hu := Try.underlying25
  have hi : (Try.prog.info? 25).map (·.size) = some 22 := by kernel_rfl
  have huc := Try.underlying42
  have hic : (Try.prog.info? 42).map (·.size) = some 25 := by kernel_rfl
  have H := Aside0.mk h
  have z1 := blk_new w (.cells (arr (y22 p0 p1 p2 cn)) 25)
  have z2 := blk_new (w.alloc (.cells (arr (y22 p0 p1 p2 cn)) 25)) (.cells (C25 (fun _ => 0) (fun _ => 0) (fun _ => 0) 0) 42)
  rw [World.size_alloc] at z2
  have Z1 := Aside0.mk (blk_alloc z1 (.cells (C25 (fun _ => 0) (fun _ => 0) (fun _ => 0) 0) 42))
  have R1 := Aside0.mk z2
  have B1 := Aside0.mk (below_alloc (below_alloc (Below.refl w.heap.size w) (.cells (arr (y22 p0 p1 p2 cn)) 25)) (.cells (C25 (fun _ => 0) (fun _ => 0) (fun _ => 0) 0) 42))
  clear h z1 z2
  cases r with
  | true =>
      go_enter Try.func22, Try.ntmps22
      go_wp2_with (first
        | ((with_reducible refine gate_dst (N := 4) rfl ?_); refine load_row_event rfl 25 (.tmp 1) rfl w.heap.size rfl 25 (arr (y22 p0 p1 p2 cn)) _ Z1.out hu rfl hi ?_)
        | (go_at_call 16; (refine (implIsYard_walk k p0 p1 p2 cn true _ H.out).mono ?_); rintro e w2 ⟨rfl, hb⟩; have B2 := Aside0.mk (below_step B1.out hb); have Z2 := Aside0.mk ((hb.block _ (lt_of_block Z1.out)).trans Z1.out); have R2 := Aside0.mk ((hb.block _ (lt_of_block R1.out)).trans R1.out); clear hb)
        | ((with_reducible refine gate_dst (N := 8) rfl ?_); refine load_row_event rfl 25 (.tmp 1) rfl w.heap.size rfl 25 (arr (y22 p0 p1 p2 cn)) _ Z2.out hu rfl hi ?_)
        | ((with_reducible refine gate_dst (N := 9) rfl ?_); refine build_event rfl 42 #[(0, .tmp 8)] rfl (C25 p0 p1 p2 cn) (by kernel_rfl) ?_)
        | ((with_reducible refine gate_store (t := 42) (p := 2) rfl ?_); refine store_row_event rfl rfl 42 (.tmp 2) (.tmp 9) rfl (w.heap.size + 1) (C25 p0 p1 p2 cn) rfl rfl 42 _ R2.out hic rfl (by kernel_rfl) ?_; intro w3 hh ho; have Y3 := Aside0.mk hh; have B3 := Aside0.mk (ho.below B2.out (by omega)); clear hh ho))
      refine bodyPost_ret (v := .tuple #[.agg (C25 p0 p1 p2 cn), .bool true]) ?_ rfl ?_
      · exact results_list (rs := [.cell 2 42, .tmp 3]) rfl (by simp) (.cell (w.heap.size + 1) 42 (C25 p0 p1 p2 cn) (0, 0) _ rfl Y3.out huc rfl (by kernel_rfl) (.tmp .nil))
      · exact ⟨rfl, B3.out⟩
  | false =>
      go_enter Try.func22, Try.ntmps22
      go_wp2_with (first
        | ((with_reducible refine gate_dst (N := 4) rfl ?_); refine load_row_event rfl 25 (.tmp 1) rfl w.heap.size rfl 25 (arr (y22 p0 p1 p2 cn)) _ Z1.out hu rfl hi ?_)
        | (go_at_call 16; (refine (implIsYard_walk k p0 p1 p2 cn false _ H.out).mono ?_); rintro e w2 ⟨rfl, hb⟩; have B2 := Aside0.mk (below_step B1.out hb); have Z2 := Aside0.mk ((hb.block _ (lt_of_block Z1.out)).trans Z1.out); have R2 := Aside0.mk ((hb.block _ (lt_of_block R1.out)).trans R1.out); clear hb)
        | ((with_reducible refine gate_dst (N := 7) rfl ?_); refine build_event rfl 42 #[] rfl (C25 (fun _ => 0) (fun _ => 0) (fun _ => 0) 0) (by kernel_rfl) ?_)
        | ((with_reducible refine gate_store (t := 42) (p := 2) rfl ?_); refine store_row_event rfl rfl 42 (.tmp 2) (.tmp 7) rfl (w.heap.size + 1) (C25 (fun _ => 0) (fun _ => 0) (fun _ => 0) 0) rfl rfl 42 _ R2.out hic rfl (by kernel_rfl) ?_; intro w3 hh ho; have Y3 := Aside0.mk hh; have B3 := Aside0.mk (ho.below B2.out (by omega)); clear hh ho))
      refine bodyPost_ret (v := .tuple #[.agg (C25 (fun _ => 0) (fun _ => 0) (fun _ => 0) 0), .bool false]) ?_ rfl ?_
      · exact results_list (rs := [.cell 2 42, .tmp 3]) rfl (by simp) (.cell (w.heap.size + 1) 42 (C25 (fun _ => 0) (fun _ => 0) (fun _ => 0) 0) (0, 0) _ rfl Y3.out huc rfl (by kernel_rfl) (.tmp .nil))
      · exact ⟨rfl, B3.out⟩
theorem eqYard_self (p0 p1 p2 : Nat → Int) (cn : Int) (w : World) : Calls Try.prog 12 #[.agg (arr (y22 p0 p1 p2 cn)), .agg (arr (y22 p0 p1 p2 cn))] w fun e w' => e = .returned (.bool true) ∧ Below w.heap.size w w' :=
  laws_eqYard.calls (p0 0) (p0 1) (p0 2) (p0 3) (p0 4) (p0 5) (p0 6) (p1 0) (p1 1) (p1 2) (p1 3) (p1 4) (p1 5) (p1 6) (p2 0) (p2 1) (p2 2) (p2 3) (p2 4) (p2 5) (p2 6) cn (p0 0) (p0 1) (p0 2) (p0 3) (p0 4) (p0 5) (p0 6) (p1 0) (p1 1) (p1 2) (p1 3) (p1 4) (p1 5) (p1 6) (p2 0) (p2 1) (p2 2) (p2 3) (p2 4) (p2 5) (p2 6) cn true w (by simp only [laws_eqYard.f, laws_eqIntA7.f, and_self, decide_true, Option.bind_some, ↓reduceIte])
set_option maxHeartbeats 8000000 in
set_option maxRecDepth 100000 in
theorem eqConsole_self (p0 p1 p2 : Nat → Int) (cn : Int) (w : World) : Calls Try.prog 23 #[.agg (C25 p0 p1 p2 cn), .agg (C25 p0 p1 p2 cn)] w fun e w' => e = .returned (.bool true) ∧ Below w.heap.size w w' := by
  have z1 := blk_new w (.cells (C25 p0 p1 p2 cn) 42)
  have z2 := blk_new (w.alloc (.cells (C25 p0 p1 p2 cn) 42)) (.cells (C25 p0 p1 p2 cn) 42)
  rw [World.size_alloc] at z2
  have Z1 := Aside0.mk (blk_alloc z1 (.cells (C25 p0 p1 p2 cn) 42))
  have R1 := Aside0.mk z2
  have B1 := Aside0.mk (below_alloc (below_alloc (Below.refl w.heap.size w) (.cells (C25 p0 p1 p2 cn) 42)) (.cells (C25 p0 p1 p2 cn) 42))
  clear z1 z2
  go_enter Try.func23, Try.ntmps23
  go_wp2_with (first
    | ((with_reducible refine gate_dst (N := 6) rfl ?_); refine Kd.event_run rfl (execLoad (addr := .pointer (some ⟨w.heap.size, 0, none⟩)) (v := .agg (arr (y22 p0 p1 p2 cn))) rfl rfl (loadSeg (pre := []) (seg := (y22 p0 p1 p2 cn).map (Value.int .i64)) (post := [.string ByteArray.empty, .string ByteArray.empty, .int .i64 0]) (by kernel_rfl) (by kernel_rfl) rfl rfl Z1.out)) ?_)
    | ((with_reducible refine gate_dst (N := 8) rfl ?_); refine Kd.event_run rfl (execLoad (addr := .pointer (some ⟨w.heap.size + 1, 0, none⟩)) (v := .agg (arr (y22 p0 p1 p2 cn))) rfl rfl (loadSeg (pre := []) (seg := (y22 p0 p1 p2 cn).map (Value.int .i64)) (post := [.string ByteArray.empty, .string ByteArray.empty, .int .i64 0]) (by kernel_rfl) (by kernel_rfl) rfl rfl R1.out)) ?_)
    | (go_at_call 12; (refine (eqYard_self p0 p1 p2 cn _).mono ?_); rintro e w2 ⟨rfl, hb⟩; have B2 := Aside0.mk (below_step B1.out hb); have Z2 := Aside0.mk ((hb.block _ (lt_of_block Z1.out)).trans Z1.out); have R2 := Aside0.mk ((hb.block _ (lt_of_block R1.out)).trans R1.out); clear hb)
    | ((with_reducible refine gate_dst (N := 12) rfl ?_); refine Kd.event_run rfl (execLoad (addr := .pointer (some ⟨w.heap.size, 22, none⟩)) (v := .agg #[.string ByteArray.empty, .string ByteArray.empty, .int .i64 0]) rfl rfl (loadSeg (pre := (y22 p0 p1 p2 cn).map (Value.int .i64)) (seg := [.string ByteArray.empty, .string ByteArray.empty, .int .i64 0]) (post := []) (by kernel_rfl) (by kernel_rfl) rfl rfl (by rw [List.append_nil]; exact Z2.out))) ?_)
    | ((with_reducible refine gate_dst (N := 14) rfl ?_); refine Kd.event_run rfl (execLoad (addr := .pointer (some ⟨w.heap.size + 1, 22, none⟩)) (v := .agg #[.string ByteArray.empty, .string ByteArray.empty, .int .i64 0]) rfl rfl (loadSeg (pre := (y22 p0 p1 p2 cn).map (Value.int .i64)) (seg := [.string ByteArray.empty, .string ByteArray.empty, .int .i64 0]) (post := []) (by kernel_rfl) (by kernel_rfl) rfl rfl (by rw [List.append_nil]; exact R2.out))) ?_)
    | (go_at_call 41; (refine (laws_eqLog.calls ByteArray.empty ByteArray.empty 0 ByteArray.empty ByteArray.empty 0 true _ (by simp only [laws_eqLog.f, ↓reduceIte])).mono ?_); rintro e w3 ⟨rfl, hb⟩; have B3 := Aside0.mk (below_step B2.out hb); clear hb))
  go_ret
  exact ⟨rfl, B3.out⟩

end Go.Proofs.Ythokeoocdkaffaa.Xi
