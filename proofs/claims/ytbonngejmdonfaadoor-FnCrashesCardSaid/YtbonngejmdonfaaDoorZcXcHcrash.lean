/- []byte and back: the log that survives a crash. -/
import Derived.Test.YtbonngejmdonfaaDoorZcXc0
import Derived.Test.YtbonngejmdonfaaDoorZcXc11
import Derived.Test.YtbonngejmdonfaaDoorZcXc7
import Derived.Lib.ConvBytes
import Derived.Lib.SlBytesRow
import Derived.Shelf.Abstract
import Derived.Deep.RegionHeld3
import Derived.BigQuiet
import Derived.Deep.QuietTactic
import Derived.RegionTactic
import Derived.BigRegion
namespace Go.Proofs.YtbonngejmdonfaaDoor.Xc
open Go.RowKit Go.Proofs.YtbonngejmdonfaaDoorW.PrintWords Go.Proofs.YtbonngejmdonfaaDoorW.PrintLast Go.Proofs.YtbonngejmdonfaaDoorW.PrintMore
attribute [local go_sem] max2_int min2_int max_two min_two max_three min_three max_four min_four
set_option linter.unusedVariables false
set_option linter.unusedSimpArgs false
/-- '[]byte(s)': a new row; its cells. -/
theorem conv_event {P : Program} {ops : Array Oper} {rest : List Oper} {o : Oper} {a : Act} {Q : Exit → Act → World → Prop} {w0 W : World} {base : Nat} (hgd : o.guard = none) {N : Tmp} (_hd : o.dst = some N) (src dst e : TypeId) (x : Operand)
    (ho : o.op = .convert src dst x) (s : ByteArray) (hx : a.eval x = .string s) {u : TypeDesc} (hs : P.underlying src = some u) (hdst : P.underlying dst = some (.slice e)) (he : P.underlying e = some (.int .u8))
    (HB : Below base w0 W) (hbase : base ≤ W.heap.size)
    (h : ∀ g c w1, W.heap.size ≤ g → (Lib.Bytes w1 g 0 s ∧ ∀ i, i < s.size → w1.frozen? ⟨g, i, none⟩ = false) → Below W.heap.size W w1 → wpList P ops Q rest (a.put o.dst (.slice (some ⟨g, 0, none⟩) s.size c)) w1) : wpList P ops Q (o :: rest) a W := by
  have hrun : (execOp a.eval o).run P W = .ok (.value (.slice (some ⟨W.heap.size, 0, none⟩) s.size (grownCap W s.size 0 e))) (Lib.bytesWorld W e s) := by
    have hc := Lib.run_convert_string_bytes (P := P) W src dst e s hs hdst he
    unfold execOp
    rw [ho]
    simp only [hx, Sem.run_bind, hc, Result.andThen_ok, Sem.run_pure]
  refine Kd.event_run hgd hrun (h _ _ _ (Nat.le_refl _) ⟨?_, ?_⟩ (bytes_below (Below.refl _ _) (Nat.le_refl _) e s))
  · intro i hi
    have := Lib.bytesWorld_cell W e s i hi
    rw [Nat.zero_add, this]
    congr 2
    rw [List.getD_eq_getElem?_getD, List.getElem?_eq_getElem (by simpa using hi)]
    simp
    rfl
  · intro i hi
    unfold World.frozen?
    rw [Lib.bytesWorld_at_new]
    have hs : s.size ≤ (Lib.bytesCells W e s).size := by unfold Lib.bytesCells; simp
    show (decide ((Lib.bytesCells W e s).size ≤ i) && decide (i < (Lib.bytesCells W e s).size + 1)) = false
    rw [decide_eq_false (by omega), Bool.false_and]
/-- The conversion at every world, its outcome told by letters. -/
theorem conv_all {P : Program} (src dst e : TypeId) (s : ByteArray) {u : TypeDesc} (hs : P.underlying src = some u) (hdst : P.underlying dst = some (.slice e)) (he : P.underlying e = some (.int .u8)) :
    ∃ (G C : World → Nat) (BW : World → World) (M : Nat), M = s.size ∧ (∀ W, (convert src dst (.string s)).run P W = .ok (.slice (some ⟨G W, 0, none⟩) M (C W)) (BW W)) ∧ ∀ W, W.heap.size ≤ G W ∧ (Lib.Bytes (BW W) (G W) 0 s ∧ ∀ i, i < s.size → (BW W).frozen? ⟨G W, i, none⟩ = false) ∧ Below W.heap.size W (BW W) := by
  refine ⟨fun W => W.heap.size, fun W => grownCap W s.size 0 e, fun W => Lib.bytesWorld W e s, s.size, rfl, fun W => Lib.run_convert_string_bytes (P := P) W src dst e s hs hdst he, fun W => ⟨Nat.le_refl _, ⟨?_, ?_⟩, bytes_below (Below.refl _ _) (Nat.le_refl _) e s⟩⟩
  · intro i hi
    have := Lib.bytesWorld_cell W e s i hi
    rw [Nat.zero_add, this]
    congr 2
    rw [List.getD_eq_getElem?_getD, List.getElem?_eq_getElem (by simpa using hi)]
    simp
    rfl
  · intro i hi
    unfold World.frozen?
    rw [Lib.bytesWorld_at_new]
    have hs : s.size ≤ (Lib.bytesCells W e s).size := by unfold Lib.bytesCells; simp
    show (decide ((Lib.bytesCells W e s).size ≤ i) && decide (i < (Lib.bytesCells W e s).size + 1)) = false
    rw [decide_eq_false (by omega), Bool.false_and]
/-- 'string(b)' of a whole row. -/
theorem back_event {P : Program} {ops : Array Oper} {rest : List Oper} {o : Oper} {a : Act} {Q : Exit → Act → World → Prop} {W : World} (hgd : o.guard = none) {N : Tmp} (_hd : o.dst = some N) (src e dst : TypeId) (x : Operand)
    (ho : o.op = .convert src dst x) (s : ByteArray) (g c : Nat) (hx : a.eval x = .slice (some ⟨g, 0, none⟩) s.size c) (hs : P.underlying src = some (.slice e)) (he : P.underlying e = some (.int .u8)) (hdst : P.underlying dst = some .string)
    (hb : Lib.Bytes W g 0 s) (h : wpList P ops Q rest (a.put o.dst (.string s)) W) : wpList P ops Q (o :: rest) a W := by
  refine Kd.event_run hgd ?_ h
  have hc := Lib.run_convert_whole (P := P) W src e dst hs he hdst g 0 s hb c
  unfold execOp
  rw [ho]
  simp only [hx, Sem.run_bind, hc, Result.andThen_ok, Sem.run_pure]
/-- A text with one byte turned. -/
def turnT (s : ByteArray) (i : Nat) : ByteArray := strOfNums ((bytesOf s).set i (255 - (bytesOf s).getD i 0))
theorem set_same {w : World} {g i : Nat} {u v : Value} (h : w.cell? ⟨g, i, none⟩ = some u) : (w.setCell ⟨g, i, none⟩ v).cell? ⟨g, i, none⟩ = some v := by
  unfold World.cell? at h ⊢
  unfold World.setCell
  simp only [Array.getElem?_modify, ↓reduceIte]
  cases hh : w.heap[g]? with
  | none => rw [hh] at h; cases h
  | some o =>
    rw [hh] at h
    cases o with
    | cells c t m =>
      have h' : c[i]? = some u := h
      have hi : i < c.size := (Array.getElem?_eq_some_iff.1 h').1
      simp [hi]
    | _ => cases h
theorem set_other {w : World} {g i j : Nat} {v : Value} (hne : i ≠ j) : (w.setCell ⟨g, i, none⟩ v).cell? ⟨g, j, none⟩ = w.cell? ⟨g, j, none⟩ := by
  unfold World.cell? World.setCell
  simp only [Array.getElem?_modify, ↓reduceIte]
  cases hh : w.heap[g]? with
  | none => rfl
  | some o =>
    cases o with
    | cells c t m => simp [Array.getElem?_setIfInBounds, hne]
    | _ => rfl
theorem set_far {w : World} {g g' i j : Nat} {v : Value} (hne : g ≠ g') : (w.setCell ⟨g, i, none⟩ v).cell? ⟨g', j, none⟩ = w.cell? ⟨g', j, none⟩ := by
  unfold World.cell? World.setCell
  simp only [Array.getElem?_modify, hne, ↓reduceIte]
theorem byte_getD (s : ByteArray) (i : Nat) (hi : i < s.size) : (bytesOf s).getD i 0 = (s[i].toNat : Int) := by
  rw [List.getD_eq_getElem?_getD, List.getElem?_eq_getElem (by rw [bytesOf_length]; exact hi), Option.getD_some]
  simp [bytesOf]
  rfl
theorem bytes_turn {w : World} {g : Nat} {s : ByteArray} (h : Lib.Bytes w g 0 s) (i : Nat) (hi : i < s.size) : Lib.Bytes (w.setCell ⟨g, i, none⟩ (.int .u8 (255 - (bytesOf s).getD i 0))) g 0 (turnT s i) := by
  refine Lib.bytes_of_nums (n := s.size) (by rw [List.length_set, bytesOf_length]) ?_ ?_
  · intro x hx
    rcases List.mem_or_eq_of_mem_set hx with hx | hx
    · obtain ⟨u, _, rfl⟩ := List.mem_map.1 hx
      have := u.toNat_lt
      omega
    · rw [hx, byte_getD s i hi]
      have := s[i].toNat_lt
      omega
  · intro j hj
    rw [Nat.zero_add]
    by_cases e : i = j
    · subst e
      have := h i hi
      rw [Nat.zero_add] at this
      rw [set_same this]
      generalize 255 - (bytesOf s).getD i 0 = x
      rw [List.getD_eq_getElem?_getD, List.getElem?_set_self (by rw [bytesOf_length]; exact hi), Option.getD_some]
    · rw [set_other e]
      have := h j hj
      rw [Nat.zero_add] at this
      rw [this, List.getD_eq_getElem?_getD, List.getElem?_set_ne e, ← List.getD_eq_getElem?_getD, byte_getD s j hj]
theorem turn_size (s : ByteArray) (i : Nat) : (turnT s i).size = s.size := by
  unfold turnT
  rw [strOfNums_size, List.length_set, bytesOf_length]
theorem bytes_drew {w : World} {g : Nat} {s : ByteArray} (h : Lib.Bytes w g 0 s) : Lib.Bytes w.drew g 0 s := fun i hi => by
  have := h i hi
  simpa using this
set_option maxHeartbeats 8000000 in
set_option maxRecDepth 100000 in
theorem specCrash_bad (k : Nat) (d p : ByteArray) (n keep : Int) (torn : Bool) (w : World) (A : spec_l12Valid.f k d p n = some false) :
    Calls Tryd.prog 26 #[.agg #[.string d, .string p, .int .i64 n], .int .i64 keep, .bool torn] w fun e w' => e = .returned (.tuple #[.string (⟨#[]⟩ : ByteArray), .bool false]) ∧ Below w.heap.size w w' := by
  have huL := Tryd.underlying33
  have HB := Aside0.mk (Below.refl w.heap.size w)
  have A2 := Aside0.mk A
  clear A
  go_enter Tryd.func26, Tryd.ntmps26
  go_wp2_with (first | ((with_reducible refine gate_dst (N := 3) rfl ?_); refine box_event ?hg (N := 3) ?hd (cs := #[.string d, .string p, .int .i64 n]) (t := 33) ?hr ?_; (case hd => rfl); (case hg => rfl); (case hr => first | (go_simp; done) | (go_simp; rfl)); intro gb hg w1 hbox hb; have n0_ := Aside0.mk (below_step (by repeat (first | (with_reducible first | exact HB.out | apply below_alloc | apply pw_below_drewN | apply below_drew1 | refine below_set ?_ GE.out | refine below_set ?_ GE2.out) | exact HB.out)) hb); have n1_ := Aside0.mk hbox; have n2_ := Aside0.mk ((by rw [hg]; exact (below_size (by repeat (first | (with_reducible first | exact HB.out | apply below_alloc | apply pw_below_drewN | apply below_drew1 | refine below_set ?_ GE.out | refine below_set ?_ GE2.out) | exact HB.out)))) : w.heap.size ≤ gb); clear HB; have HB := n0_; have BK := n1_; have GE := n2_; clear n0_ n1_ n2_; clear hb hbox hg; have hc0_w1 : w1.cell? ⟨gb, 0, none⟩ = some (.string d) := (blk_cell BK.out 0).trans rfl; have hc1_w1 : w1.cell? ⟨gb, 1, none⟩ = some (.string p) := (blk_cell BK.out 1).trans rfl; have hc2_w1 : w1.cell? ⟨gb, 2, none⟩ = some (.int .i64 n) := (blk_cell BK.out 2).trans rfl; have hf0_w1 := blk_frozen BK.out 0; have hf1_w1 := blk_frozen BK.out 1; have hf2_w1 := blk_frozen BK.out 2) | (go_at_call 40; (with_reducible refine (spec_l12Valid.calls k d p n false _ A2.out).mono ?_); rintro e w2 ⟨rfl, hb⟩; have n0_ := Aside0.mk (blk_below (g := gb) (o := .cells #[.string d, .string p, .int .i64 n] 33 (0, 0)) (by (with_reducible repeat (first | refine blk_drewN ?_ _ | refine blk_drew ?_ | refine blk_alloc ?_ _)); exact BK.out) hb); have n1_ := Aside0.mk (below_step (by repeat (first | (with_reducible first | exact HB.out | apply below_alloc | apply pw_below_drewN | apply below_drew1 | refine below_set ?_ GE.out | refine below_set ?_ GE2.out) | exact HB.out)) hb); clear BK; clear HB; have BK := n0_; have HB := n1_; clear n0_ n1_ hb; have hc0_w2 : w2.cell? ⟨gb, 0, none⟩ = some (.string d) := (blk_cell BK.out 0).trans rfl; have hc1_w2 : w2.cell? ⟨gb, 1, none⟩ = some (.string p) := (blk_cell BK.out 1).trans rfl; have hc2_w2 : w2.cell? ⟨gb, 2, none⟩ = some (.int .i64 n) := (blk_cell BK.out 2).trans rfl; have hf0_w2 := blk_frozen BK.out 0; have hf1_w2 := blk_frozen BK.out 1; have hf2_w2 := blk_frozen BK.out 2))
  go_ret2
  exact ⟨by first | rfl | (simp; done), (by repeat (first | (with_reducible first | exact HB.out | apply below_alloc | apply pw_below_drewN | apply below_drew1 | refine below_set ?_ GE.out | refine below_set ?_ GE2.out) | exact HB.out))⟩
set_option maxHeartbeats 8000000 in
set_option maxRecDepth 100000 in
theorem specCrash_out (k : Nat) (d p : ByteArray) (n keep : Int) (torn : Bool) (w : World) (A : spec_l12Valid.f k d p n = some true) (hI : spec_l1In.f keep 0 (p.size : Int) = some false) :
    Calls Tryd.prog 26 #[.agg #[.string d, .string p, .int .i64 n], .int .i64 keep, .bool torn] w fun e w' => e = .returned (.tuple #[.string (⟨#[]⟩ : ByteArray), .bool false]) ∧ Below w.heap.size w w' := by
  have huL := Tryd.underlying33
  have HB := Aside0.mk (Below.refl w.heap.size w)
  have A2 := Aside0.mk A
  clear A
  have HI := Aside0.mk hI
  clear hI
  go_enter Tryd.func26, Tryd.ntmps26
  go_wp2_with (first | ((with_reducible refine gate_dst (N := 3) rfl ?_); refine box_event ?hg (N := 3) ?hd (cs := #[.string d, .string p, .int .i64 n]) (t := 33) ?hr ?_; (case hd => rfl); (case hg => rfl); (case hr => first | (go_simp; done) | (go_simp; rfl)); intro gb hg w1 hbox hb; have n0_ := Aside0.mk (below_step (by repeat (first | (with_reducible first | exact HB.out | apply below_alloc | apply pw_below_drewN | apply below_drew1 | refine below_set ?_ GE.out | refine below_set ?_ GE2.out) | exact HB.out)) hb); have n1_ := Aside0.mk hbox; have n2_ := Aside0.mk ((by rw [hg]; exact (below_size (by repeat (first | (with_reducible first | exact HB.out | apply below_alloc | apply pw_below_drewN | apply below_drew1 | refine below_set ?_ GE.out | refine below_set ?_ GE2.out) | exact HB.out)))) : w.heap.size ≤ gb); clear HB; have HB := n0_; have BK := n1_; have GE := n2_; clear n0_ n1_ n2_; clear hb hbox hg; have hc0_w1 : w1.cell? ⟨gb, 0, none⟩ = some (.string d) := (blk_cell BK.out 0).trans rfl; have hc1_w1 : w1.cell? ⟨gb, 1, none⟩ = some (.string p) := (blk_cell BK.out 1).trans rfl; have hc2_w1 : w1.cell? ⟨gb, 2, none⟩ = some (.int .i64 n) := (blk_cell BK.out 2).trans rfl; have hf0_w1 := blk_frozen BK.out 0; have hf1_w1 := blk_frozen BK.out 1; have hf2_w1 := blk_frozen BK.out 2) | (go_at_call 40; (with_reducible refine (spec_l12Valid.calls k d p n true _ A2.out).mono ?_); rintro e w2 ⟨rfl, hb⟩; have n0_ := Aside0.mk (blk_below (g := gb) (o := .cells #[.string d, .string p, .int .i64 n] 33 (0, 0)) (by (with_reducible repeat (first | refine blk_drewN ?_ _ | refine blk_drew ?_ | refine blk_alloc ?_ _)); exact BK.out) hb); have n1_ := Aside0.mk (below_step (by repeat (first | (with_reducible first | exact HB.out | apply below_alloc | apply pw_below_drewN | apply below_drew1 | refine below_set ?_ GE.out | refine below_set ?_ GE2.out) | exact HB.out)) hb); clear BK; clear HB; have BK := n0_; have HB := n1_; clear n0_ n1_ hb; have hc0_w2 : w2.cell? ⟨gb, 0, none⟩ = some (.string d) := (blk_cell BK.out 0).trans rfl; have hc1_w2 : w2.cell? ⟨gb, 1, none⟩ = some (.string p) := (blk_cell BK.out 1).trans rfl; have hc2_w2 : w2.cell? ⟨gb, 2, none⟩ = some (.int .i64 n) := (blk_cell BK.out 2).trans rfl; have hf0_w2 := blk_frozen BK.out 0; have hf1_w2 := blk_frozen BK.out 1; have hf2_w2 := blk_frozen BK.out 2) | (go_at_call 34; (with_reducible refine (spec_l1In.calls keep 0 (p.size : Int) false _ HI.out).mono ?_); rintro e w4 ⟨rfl, ⟨nd, rfl⟩⟩))
  go_ret2
  exact ⟨by first | rfl | (simp; done), (by repeat (first | (with_reducible first | exact HB.out | apply below_alloc | apply pw_below_drewN | apply below_drew1 | refine below_set ?_ GE.out | refine below_set ?_ GE2.out) | exact HB.out))⟩
set_option maxHeartbeats 8000000 in
set_option maxRecDepth 100000 in
theorem specCrash_same (k : Nat) (d p : ByteArray) (n keep : Int)  (w : World) (A : spec_l12Valid.f k d p n = some true) (hI : spec_l1In.f keep 0 (p.size : Int) = some true) (q : ByteArray) (hsl : ∀ W : World, (Instr.slice 9 (.string p) none (some (.int .i64 keep)) none).run Tryd.prog W = .ok (.string q) W) (hdq : d.size + q.size ≤ 9223372036854775807) :
    Calls Tryd.prog 26 #[.agg #[.string d, .string p, .int .i64 n], .int .i64 keep, .bool false] w fun e w' => e = .returned (.tuple #[.string (d ++ q), .bool true]) ∧ Below w.heap.size w w' := by
  have huL := Tryd.underlying33
  have HB := Aside0.mk (Below.refl w.heap.size w)
  have A2 := Aside0.mk A
  clear A
  have HI := Aside0.mk hI
  clear hI
  have hdq2 := eq_true hdq
  have hdq3 : (9223372036854775807 < d.size + q.size) = False := eq_false (Nat.not_lt.2 hdq)
  go_enter Tryd.func26, Tryd.ntmps26
  go_wp2_with (first | ((with_reducible refine gate_dst (N := 3) rfl ?_); refine box_event ?hg (N := 3) ?hd (cs := #[.string d, .string p, .int .i64 n]) (t := 33) ?hr ?_; (case hd => rfl); (case hg => rfl); (case hr => first | (go_simp; done) | (go_simp; rfl)); intro gb hg w1 hbox hb; have n0_ := Aside0.mk (below_step (by repeat (first | (with_reducible first | exact HB.out | apply below_alloc | apply pw_below_drewN | apply below_drew1 | refine below_set ?_ GE.out | refine below_set ?_ GE2.out) | exact HB.out)) hb); have n1_ := Aside0.mk hbox; have n2_ := Aside0.mk ((by rw [hg]; exact (below_size (by repeat (first | (with_reducible first | exact HB.out | apply below_alloc | apply pw_below_drewN | apply below_drew1 | refine below_set ?_ GE.out | refine below_set ?_ GE2.out) | exact HB.out)))) : w.heap.size ≤ gb); clear HB; have HB := n0_; have BK := n1_; have GE := n2_; clear n0_ n1_ n2_; clear hb hbox hg; have hc0_w1 : w1.cell? ⟨gb, 0, none⟩ = some (.string d) := (blk_cell BK.out 0).trans rfl; have hc1_w1 : w1.cell? ⟨gb, 1, none⟩ = some (.string p) := (blk_cell BK.out 1).trans rfl; have hc2_w1 : w1.cell? ⟨gb, 2, none⟩ = some (.int .i64 n) := (blk_cell BK.out 2).trans rfl; have hf0_w1 := blk_frozen BK.out 0; have hf1_w1 := blk_frozen BK.out 1; have hf2_w1 := blk_frozen BK.out 2) | (go_at_call 40; (with_reducible refine (spec_l12Valid.calls k d p n true _ A2.out).mono ?_); rintro e w2 ⟨rfl, hb⟩; have n0_ := Aside0.mk (blk_below (g := gb) (o := .cells #[.string d, .string p, .int .i64 n] 33 (0, 0)) (by (with_reducible repeat (first | refine blk_drewN ?_ _ | refine blk_drew ?_ | refine blk_alloc ?_ _)); exact BK.out) hb); have n1_ := Aside0.mk (below_step (by repeat (first | (with_reducible first | exact HB.out | apply below_alloc | apply pw_below_drewN | apply below_drew1 | refine below_set ?_ GE.out | refine below_set ?_ GE2.out) | exact HB.out)) hb); clear BK; clear HB; have BK := n0_; have HB := n1_; clear n0_ n1_ hb; have hc0_w2 : w2.cell? ⟨gb, 0, none⟩ = some (.string d) := (blk_cell BK.out 0).trans rfl; have hc1_w2 : w2.cell? ⟨gb, 1, none⟩ = some (.string p) := (blk_cell BK.out 1).trans rfl; have hc2_w2 : w2.cell? ⟨gb, 2, none⟩ = some (.int .i64 n) := (blk_cell BK.out 2).trans rfl; have hf0_w2 := blk_frozen BK.out 0; have hf1_w2 := blk_frozen BK.out 1; have hf2_w2 := blk_frozen BK.out 2) | (go_at_call 34; (with_reducible refine (spec_l1In.calls keep 0 (p.size : Int) true _ HI.out).mono ?_); rintro e w4 ⟨rfl, ⟨nd, rfl⟩⟩) | ((with_reducible refine gate_dst (N := 24) rfl ?_); refine conv_event (base := w.heap.size) (w0 := w) rfl (N := 24) rfl 9 22 5 (.tmp 23) rfl q rfl Tryd.underlying9 Tryd.underlying22 Tryd.underlying5 (by repeat (first | (with_reducible first | exact HB.out | apply below_alloc | apply pw_below_drewN | apply below_drew1 | refine below_set ?_ GE.out | refine below_set ?_ GE2.out) | exact HB.out)) (below_size (by repeat (first | (with_reducible first | exact HB.out | apply below_alloc | apply pw_below_drewN | apply below_drew1 | refine below_set ?_ GE.out | refine below_set ?_ GE2.out) | exact HB.out))) ?_; intro gc cc w3 hge hby hb; have n0_ := Aside0.mk (blk_below (g := gb) (o := .cells #[.string d, .string p, .int .i64 n] 33 (0, 0)) (by (with_reducible repeat (first | refine blk_drewN ?_ _ | refine blk_drew ?_ | refine blk_alloc ?_ _)); exact BK.out) hb); have n1_ := Aside0.mk (below_step (by repeat (first | (with_reducible first | exact HB.out | apply below_alloc | apply pw_below_drewN | apply below_drew1 | refine below_set ?_ GE.out | refine below_set ?_ GE2.out) | exact HB.out)) hb); have YB := Aside0.mk hby; have GE2 := Aside0.mk (Nat.le_trans (below_size (by repeat (first | (with_reducible first | exact HB.out | apply below_alloc | apply pw_below_drewN | apply below_drew1 | refine below_set ?_ GE.out | refine below_set ?_ GE2.out) | exact HB.out))) hge : w.heap.size ≤ gc); have NE := Aside0.mk (Nat.ne_of_gt (Nat.lt_of_lt_of_le (blk_lt (g := gb) (o := .cells #[.string d, .string p, .int .i64 n] 33 (0, 0)) (by (with_reducible repeat (first | refine blk_drewN ?_ _ | refine blk_drew ?_ | refine blk_alloc ?_ _)); exact BK.out)) hge) : gc ≠ gb); clear BK; clear HB; have BK := n0_; have HB := n1_; clear n0_ n1_ hb hby hge; have hc0_w3 : w3.cell? ⟨gb, 0, none⟩ = some (.string d) := (blk_cell BK.out 0).trans rfl; have hc1_w3 : w3.cell? ⟨gb, 1, none⟩ = some (.string p) := (blk_cell BK.out 1).trans rfl; have hc2_w3 : w3.cell? ⟨gb, 2, none⟩ = some (.int .i64 n) := (blk_cell BK.out 2).trans rfl; have hf0_w3 := blk_frozen BK.out 0; have hf1_w3 := blk_frozen BK.out 1; have hf2_w3 := blk_frozen BK.out 2; have hbk := Lib.run_convert_whole (P := Tryd.prog) w3 22 5 9 Tryd.underlying22 Tryd.underlying5 Tryd.underlying9 gc 0 q YB.out.1 cc))
  go_ret2
  exact ⟨by first | rfl | (simp; done), (by repeat (first | (with_reducible first | exact HB.out | apply below_alloc | apply pw_below_drewN | apply below_drew1 | refine below_set ?_ GE.out | refine below_set ?_ GE2.out) | exact HB.out))⟩
set_option maxHeartbeats 8000000 in
set_option maxRecDepth 100000 in
theorem specCrash_zero (k : Nat) (d p : ByteArray) (n keep : Int)  (w : World) (A : spec_l12Valid.f k d p n = some true) (hI : spec_l1In.f keep 0 (p.size : Int) = some true) (q : ByteArray) (hsl : ∀ W : World, (Instr.slice 9 (.string p) none (some (.int .i64 keep)) none).run Tryd.prog W = .ok (.string q) W) (hdq : d.size + q.size ≤ 9223372036854775807) (hk : ¬ 0 < keep) :
    Calls Tryd.prog 26 #[.agg #[.string d, .string p, .int .i64 n], .int .i64 keep, .bool true] w fun e w' => e = .returned (.tuple #[.string (d ++ q), .bool true]) ∧ Below w.heap.size w w' := by
  have huL := Tryd.underlying33
  have HB := Aside0.mk (Below.refl w.heap.size w)
  have A2 := Aside0.mk A
  clear A
  have HI := Aside0.mk hI
  clear hI
  have hdq2 := eq_true hdq
  have hdq3 : (9223372036854775807 < d.size + q.size) = False := eq_false (Nat.not_lt.2 hdq)
  have hk2 : decide (0 < keep) = false := decide_eq_false hk
  go_enter Tryd.func26, Tryd.ntmps26
  go_wp2_with (first | ((with_reducible refine gate_dst (N := 3) rfl ?_); refine box_event ?hg (N := 3) ?hd (cs := #[.string d, .string p, .int .i64 n]) (t := 33) ?hr ?_; (case hd => rfl); (case hg => rfl); (case hr => first | (go_simp; done) | (go_simp; rfl)); intro gb hg w1 hbox hb; have n0_ := Aside0.mk (below_step (by repeat (first | (with_reducible first | exact HB.out | apply below_alloc | apply pw_below_drewN | apply below_drew1 | refine below_set ?_ GE.out | refine below_set ?_ GE2.out) | exact HB.out)) hb); have n1_ := Aside0.mk hbox; have n2_ := Aside0.mk ((by rw [hg]; exact (below_size (by repeat (first | (with_reducible first | exact HB.out | apply below_alloc | apply pw_below_drewN | apply below_drew1 | refine below_set ?_ GE.out | refine below_set ?_ GE2.out) | exact HB.out)))) : w.heap.size ≤ gb); clear HB; have HB := n0_; have BK := n1_; have GE := n2_; clear n0_ n1_ n2_; clear hb hbox hg; have hc0_w1 : w1.cell? ⟨gb, 0, none⟩ = some (.string d) := (blk_cell BK.out 0).trans rfl; have hc1_w1 : w1.cell? ⟨gb, 1, none⟩ = some (.string p) := (blk_cell BK.out 1).trans rfl; have hc2_w1 : w1.cell? ⟨gb, 2, none⟩ = some (.int .i64 n) := (blk_cell BK.out 2).trans rfl; have hf0_w1 := blk_frozen BK.out 0; have hf1_w1 := blk_frozen BK.out 1; have hf2_w1 := blk_frozen BK.out 2) | (go_at_call 40; (with_reducible refine (spec_l12Valid.calls k d p n true _ A2.out).mono ?_); rintro e w2 ⟨rfl, hb⟩; have n0_ := Aside0.mk (blk_below (g := gb) (o := .cells #[.string d, .string p, .int .i64 n] 33 (0, 0)) (by (with_reducible repeat (first | refine blk_drewN ?_ _ | refine blk_drew ?_ | refine blk_alloc ?_ _)); exact BK.out) hb); have n1_ := Aside0.mk (below_step (by repeat (first | (with_reducible first | exact HB.out | apply below_alloc | apply pw_below_drewN | apply below_drew1 | refine below_set ?_ GE.out | refine below_set ?_ GE2.out) | exact HB.out)) hb); clear BK; clear HB; have BK := n0_; have HB := n1_; clear n0_ n1_ hb; have hc0_w2 : w2.cell? ⟨gb, 0, none⟩ = some (.string d) := (blk_cell BK.out 0).trans rfl; have hc1_w2 : w2.cell? ⟨gb, 1, none⟩ = some (.string p) := (blk_cell BK.out 1).trans rfl; have hc2_w2 : w2.cell? ⟨gb, 2, none⟩ = some (.int .i64 n) := (blk_cell BK.out 2).trans rfl; have hf0_w2 := blk_frozen BK.out 0; have hf1_w2 := blk_frozen BK.out 1; have hf2_w2 := blk_frozen BK.out 2) | (go_at_call 34; (with_reducible refine (spec_l1In.calls keep 0 (p.size : Int) true _ HI.out).mono ?_); rintro e w4 ⟨rfl, ⟨nd, rfl⟩⟩) | ((with_reducible refine gate_dst (N := 24) rfl ?_); refine conv_event (base := w.heap.size) (w0 := w) rfl (N := 24) rfl 9 22 5 (.tmp 23) rfl q rfl Tryd.underlying9 Tryd.underlying22 Tryd.underlying5 (by repeat (first | (with_reducible first | exact HB.out | apply below_alloc | apply pw_below_drewN | apply below_drew1 | refine below_set ?_ GE.out | refine below_set ?_ GE2.out) | exact HB.out)) (below_size (by repeat (first | (with_reducible first | exact HB.out | apply below_alloc | apply pw_below_drewN | apply below_drew1 | refine below_set ?_ GE.out | refine below_set ?_ GE2.out) | exact HB.out))) ?_; intro gc cc w3 hge hby hb; have n0_ := Aside0.mk (blk_below (g := gb) (o := .cells #[.string d, .string p, .int .i64 n] 33 (0, 0)) (by (with_reducible repeat (first | refine blk_drewN ?_ _ | refine blk_drew ?_ | refine blk_alloc ?_ _)); exact BK.out) hb); have n1_ := Aside0.mk (below_step (by repeat (first | (with_reducible first | exact HB.out | apply below_alloc | apply pw_below_drewN | apply below_drew1 | refine below_set ?_ GE.out | refine below_set ?_ GE2.out) | exact HB.out)) hb); have YB := Aside0.mk hby; have GE2 := Aside0.mk (Nat.le_trans (below_size (by repeat (first | (with_reducible first | exact HB.out | apply below_alloc | apply pw_below_drewN | apply below_drew1 | refine below_set ?_ GE.out | refine below_set ?_ GE2.out) | exact HB.out))) hge : w.heap.size ≤ gc); have NE := Aside0.mk (Nat.ne_of_gt (Nat.lt_of_lt_of_le (blk_lt (g := gb) (o := .cells #[.string d, .string p, .int .i64 n] 33 (0, 0)) (by (with_reducible repeat (first | refine blk_drewN ?_ _ | refine blk_drew ?_ | refine blk_alloc ?_ _)); exact BK.out)) hge) : gc ≠ gb); clear BK; clear HB; have BK := n0_; have HB := n1_; clear n0_ n1_ hb hby hge; have hc0_w3 : w3.cell? ⟨gb, 0, none⟩ = some (.string d) := (blk_cell BK.out 0).trans rfl; have hc1_w3 : w3.cell? ⟨gb, 1, none⟩ = some (.string p) := (blk_cell BK.out 1).trans rfl; have hc2_w3 : w3.cell? ⟨gb, 2, none⟩ = some (.int .i64 n) := (blk_cell BK.out 2).trans rfl; have hf0_w3 := blk_frozen BK.out 0; have hf1_w3 := blk_frozen BK.out 1; have hf2_w3 := blk_frozen BK.out 2; have hbk := Lib.run_convert_whole (P := Tryd.prog) w3 22 5 9 Tryd.underlying22 Tryd.underlying5 Tryd.underlying9 gc 0 q YB.out.1 cc))
  go_ret2
  exact ⟨by first | rfl | (simp; done), (by repeat (first | (with_reducible first | exact HB.out | apply below_alloc | apply pw_below_drewN | apply below_drew1 | refine below_set ?_ GE.out | refine below_set ?_ GE2.out) | exact HB.out))⟩
set_option maxHeartbeats 8000000 in
set_option maxRecDepth 100000 in
theorem specCrash_turn (k : Nat) (d p : ByteArray) (n keep : Int)  (w : World) (A : spec_l12Valid.f k d p n = some true) (hI : spec_l1In.f keep 0 (p.size : Int) = some true) (q : ByteArray) (hsl : ∀ W : World, (Instr.slice 9 (.string p) none (some (.int .i64 keep)) none).run Tryd.prog W = .ok (.string q) W) (hdq : d.size + q.size ≤ 9223372036854775807) (j : Nat) (hj : j < q.size) (hk : 0 < keep) (hkj : keep - 1 = (j : Int)) :
    Calls Tryd.prog 26 #[.agg #[.string d, .string p, .int .i64 n], .int .i64 keep, .bool true] w fun e w' => e = .returned (.tuple #[.string (d ++ turnT q j), .bool true]) ∧ Below w.heap.size w w' := by
  have huL := Tryd.underlying33
  have HB := Aside0.mk (Below.refl w.heap.size w)
  have A2 := Aside0.mk A
  clear A
  have HI := Aside0.mk hI
  clear hI
  have hdq2 := eq_true hdq
  have hdq3 : (9223372036854775807 < d.size + q.size) = False := eq_false (Nat.not_lt.2 hdq)
  have hk2 : decide (0 < keep) = true := decide_eq_true hk
  obtain ⟨b, hbb⟩ : ∃ b, b = (bytesOf q).getD j 0 := ⟨_, rfl⟩
  have HBB := Aside0.mk hbb
  have hb0 : 0 ≤ b ∧ b ≤ 255 := (by rw [hbb, byte_getD q j hj]; have := q[j].toNat_lt; omega)
  have hjq : (j : Int) < (q.size : Int) := by omega
  have hjq2 := decide_eq_true hjq
  have hw8 : (255 - b) % 256 = 255 - b := by omega
  have hwj : wrap64 (keep - 1) = (j : Int) := by rw [hkj]; unfold wrap64; omega
  have hts : d.size + (turnT q j).size ≤ 9223372036854775807 := by rw [turn_size]; exact hdq
  have hts2 : (9223372036854775807 < d.size + (turnT q j).size) = False := eq_false (Nat.not_lt.2 hts)
  clear hbb
  go_enter Tryd.func26, Tryd.ntmps26
  go_wp2_with (first | ((with_reducible refine gate_dst (N := 3) rfl ?_); refine box_event ?hg (N := 3) ?hd (cs := #[.string d, .string p, .int .i64 n]) (t := 33) ?hr ?_; (case hd => rfl); (case hg => rfl); (case hr => first | (go_simp; done) | (go_simp; rfl)); intro gb hg w1 hbox hb; have n0_ := Aside0.mk (below_step (by repeat (first | (with_reducible first | exact HB.out | apply below_alloc | apply pw_below_drewN | apply below_drew1 | refine below_set ?_ GE.out | refine below_set ?_ GE2.out) | exact HB.out)) hb); have n1_ := Aside0.mk hbox; have n2_ := Aside0.mk ((by rw [hg]; exact (below_size (by repeat (first | (with_reducible first | exact HB.out | apply below_alloc | apply pw_below_drewN | apply below_drew1 | refine below_set ?_ GE.out | refine below_set ?_ GE2.out) | exact HB.out)))) : w.heap.size ≤ gb); clear HB; have HB := n0_; have BK := n1_; have GE := n2_; clear n0_ n1_ n2_; clear hb hbox hg; have hc0_w1 : w1.cell? ⟨gb, 0, none⟩ = some (.string d) := (blk_cell BK.out 0).trans rfl; have hc1_w1 : w1.cell? ⟨gb, 1, none⟩ = some (.string p) := (blk_cell BK.out 1).trans rfl; have hc2_w1 : w1.cell? ⟨gb, 2, none⟩ = some (.int .i64 n) := (blk_cell BK.out 2).trans rfl; have hf0_w1 := blk_frozen BK.out 0; have hf1_w1 := blk_frozen BK.out 1; have hf2_w1 := blk_frozen BK.out 2) | (go_at_call 40; (with_reducible refine (spec_l12Valid.calls k d p n true _ A2.out).mono ?_); rintro e w2 ⟨rfl, hb⟩; have n0_ := Aside0.mk (blk_below (g := gb) (o := .cells #[.string d, .string p, .int .i64 n] 33 (0, 0)) (by (with_reducible repeat (first | refine blk_drewN ?_ _ | refine blk_drew ?_ | refine blk_alloc ?_ _)); exact BK.out) hb); have n1_ := Aside0.mk (below_step (by repeat (first | (with_reducible first | exact HB.out | apply below_alloc | apply pw_below_drewN | apply below_drew1 | refine below_set ?_ GE.out | refine below_set ?_ GE2.out) | exact HB.out)) hb); clear BK; clear HB; have BK := n0_; have HB := n1_; clear n0_ n1_ hb; have hc0_w2 : w2.cell? ⟨gb, 0, none⟩ = some (.string d) := (blk_cell BK.out 0).trans rfl; have hc1_w2 : w2.cell? ⟨gb, 1, none⟩ = some (.string p) := (blk_cell BK.out 1).trans rfl; have hc2_w2 : w2.cell? ⟨gb, 2, none⟩ = some (.int .i64 n) := (blk_cell BK.out 2).trans rfl; have hf0_w2 := blk_frozen BK.out 0; have hf1_w2 := blk_frozen BK.out 1; have hf2_w2 := blk_frozen BK.out 2) | (go_at_call 34; (with_reducible refine (spec_l1In.calls keep 0 (p.size : Int) true _ HI.out).mono ?_); rintro e w4 ⟨rfl, ⟨nd, rfl⟩⟩) | ((with_reducible refine gate_dst (N := 24) rfl ?_); refine conv_event (base := w.heap.size) (w0 := w) rfl (N := 24) rfl 9 22 5 (.tmp 23) rfl q rfl Tryd.underlying9 Tryd.underlying22 Tryd.underlying5 (by repeat (first | (with_reducible first | exact HB.out | apply below_alloc | apply pw_below_drewN | apply below_drew1 | refine below_set ?_ GE.out | refine below_set ?_ GE2.out) | exact HB.out)) (below_size (by repeat (first | (with_reducible first | exact HB.out | apply below_alloc | apply pw_below_drewN | apply below_drew1 | refine below_set ?_ GE.out | refine below_set ?_ GE2.out) | exact HB.out))) ?_; intro gc cc w3 hge hby hb; have n0_ := Aside0.mk (blk_below (g := gb) (o := .cells #[.string d, .string p, .int .i64 n] 33 (0, 0)) (by (with_reducible repeat (first | refine blk_drewN ?_ _ | refine blk_drew ?_ | refine blk_alloc ?_ _)); exact BK.out) hb); have n1_ := Aside0.mk (below_step (by repeat (first | (with_reducible first | exact HB.out | apply below_alloc | apply pw_below_drewN | apply below_drew1 | refine below_set ?_ GE.out | refine below_set ?_ GE2.out) | exact HB.out)) hb); have YB := Aside0.mk hby; have GE2 := Aside0.mk (Nat.le_trans (below_size (by repeat (first | (with_reducible first | exact HB.out | apply below_alloc | apply pw_below_drewN | apply below_drew1 | refine below_set ?_ GE.out | refine below_set ?_ GE2.out) | exact HB.out))) hge : w.heap.size ≤ gc); have NE := Aside0.mk (Nat.ne_of_gt (Nat.lt_of_lt_of_le (blk_lt (g := gb) (o := .cells #[.string d, .string p, .int .i64 n] 33 (0, 0)) (by (with_reducible repeat (first | refine blk_drewN ?_ _ | refine blk_drew ?_ | refine blk_alloc ?_ _)); exact BK.out)) hge) : gc ≠ gb); clear BK; clear HB; have BK := n0_; have HB := n1_; clear n0_ n1_ hb hby hge; have hc0_w3 : w3.cell? ⟨gb, 0, none⟩ = some (.string d) := (blk_cell BK.out 0).trans rfl; have hc1_w3 : w3.cell? ⟨gb, 1, none⟩ = some (.string p) := (blk_cell BK.out 1).trans rfl; have hc2_w3 : w3.cell? ⟨gb, 2, none⟩ = some (.int .i64 n) := (blk_cell BK.out 2).trans rfl; have hf0_w3 := blk_frozen BK.out 0; have hf1_w3 := blk_frozen BK.out 1; have hf2_w3 := blk_frozen BK.out 2; have hd0 : (w3.setCell ⟨gc, j, none⟩ (.int .u8 (255 - b))).cell? ⟨gb, 0, none⟩ = some (.string d) := (set_far NE.out).trans hc0_w3; have hcj : w3.cell? ⟨gc, j, none⟩ = some (.int .u8 b) := (by have := YB.out.1 j hj; rw [Nat.zero_add] at this; rw [this, HBB.out, byte_getD q j hj]); have hfj : w3.frozen? ⟨gc, j, none⟩ = false := YB.out.2 j hj; have hbk := Lib.run_convert_whole (P := Tryd.prog) (w3.setCell ⟨gc, j, none⟩ (.int .u8 (255 - b))) 22 5 9 Tryd.underlying22 Tryd.underlying5 Tryd.underlying9 gc 0 (turnT q j) (by rw [HBB.out]; exact bytes_turn YB.out.1 j hj) cc; rw [turn_size] at hbk))
  go_ret2
  exact ⟨by first | rfl | (simp; done), (by repeat (first | (with_reducible first | exact HB.out | apply below_alloc | apply pw_below_drewN | apply below_drew1 | refine below_set ?_ GE.out | refine below_set ?_ GE2.out) | exact HB.out))⟩
set_option maxHeartbeats 8000000 in
set_option maxRecDepth 100000 in
theorem implCrash_bad (k : Nat) (d p : ByteArray) (n keep : Int) (torn : Bool) (w : World) (hT : XTab w) (A : impl_IsValidLog.f k d p n = some false) :
    Calls Tryd.prog 25 #[.agg #[.string d, .string p, .int .i64 n], .int .i64 keep, .bool torn] w fun e w' => e = .returned (.tuple #[.string (⟨#[]⟩ : ByteArray), .bool false]) ∧ Below w.heap.size w w' := by
  have huL := Tryd.underlying33
  have HB := Aside0.mk (Below.refl w.heap.size w)
  have A2 := Aside0.mk A
  clear A
  have HTAB := Aside0.mk hT
  clear hT
  go_enter Tryd.func25, Tryd.ntmps25
  go_wp2_with (first | ((with_reducible refine gate_dst (N := 3) rfl ?_); refine box_event ?hg (N := 3) ?hd (cs := #[.string d, .string p, .int .i64 n]) (t := 33) ?hr ?_; (case hd => rfl); (case hg => rfl); (case hr => first | (go_simp; done) | (go_simp; rfl)); intro gb hg w1 hbox hb; have n0_ := Aside0.mk (below_step (by repeat (first | (with_reducible first | exact HB.out | apply below_alloc | apply pw_below_drewN | apply below_drew1 | refine below_set ?_ GE.out | refine below_set ?_ GE2.out) | exact HB.out)) hb); have n1_ := Aside0.mk hbox; have n2_ := Aside0.mk ((by rw [hg]; exact (below_size (by repeat (first | (with_reducible first | exact HB.out | apply below_alloc | apply pw_below_drewN | apply below_drew1 | refine below_set ?_ GE.out | refine below_set ?_ GE2.out) | exact HB.out)))) : w.heap.size ≤ gb); clear HB; have HB := n0_; have BK := n1_; have GE := n2_; clear n0_ n1_ n2_; clear hb hbox hg; have hc0_w1 : w1.cell? ⟨gb, 0, none⟩ = some (.string d) := (blk_cell BK.out 0).trans rfl; have hc1_w1 : w1.cell? ⟨gb, 1, none⟩ = some (.string p) := (blk_cell BK.out 1).trans rfl; have hc2_w1 : w1.cell? ⟨gb, 2, none⟩ = some (.int .i64 n) := (blk_cell BK.out 2).trans rfl; have hf0_w1 := blk_frozen BK.out 0; have hf1_w1 := blk_frozen BK.out 1; have hf2_w1 := blk_frozen BK.out 2) | (go_at_call 17; (with_reducible refine (impl_IsValidLog.calls k d p n false _ (XTab.below HTAB.out (by repeat (first | (with_reducible first | exact HB.out | apply below_alloc | apply pw_below_drewN | apply below_drew1 | refine below_set ?_ GE.out | refine below_set ?_ GE2.out) | exact HB.out))) A2.out).mono ?_); rintro e w2 ⟨rfl, hb⟩; have n0_ := Aside0.mk (blk_below (g := gb) (o := .cells #[.string d, .string p, .int .i64 n] 33 (0, 0)) (by (with_reducible repeat (first | refine blk_drewN ?_ _ | refine blk_drew ?_ | refine blk_alloc ?_ _)); exact BK.out) hb); have n1_ := Aside0.mk (below_step (by repeat (first | (with_reducible first | exact HB.out | apply below_alloc | apply pw_below_drewN | apply below_drew1 | refine below_set ?_ GE.out | refine below_set ?_ GE2.out) | exact HB.out)) hb); clear BK; clear HB; have BK := n0_; have HB := n1_; clear n0_ n1_ hb; have hc0_w2 : w2.cell? ⟨gb, 0, none⟩ = some (.string d) := (blk_cell BK.out 0).trans rfl; have hc1_w2 : w2.cell? ⟨gb, 1, none⟩ = some (.string p) := (blk_cell BK.out 1).trans rfl; have hc2_w2 : w2.cell? ⟨gb, 2, none⟩ = some (.int .i64 n) := (blk_cell BK.out 2).trans rfl; have hf0_w2 := blk_frozen BK.out 0; have hf1_w2 := blk_frozen BK.out 1; have hf2_w2 := blk_frozen BK.out 2))
  go_ret2
  exact ⟨by first | rfl | (simp; done), (by repeat (first | (with_reducible first | exact HB.out | apply below_alloc | apply pw_below_drewN | apply below_drew1 | refine below_set ?_ GE.out | refine below_set ?_ GE2.out) | exact HB.out))⟩
set_option maxHeartbeats 8000000 in
set_option maxRecDepth 100000 in
theorem implCrash_neg (k : Nat) (d p : ByteArray) (n keep : Int) (torn : Bool) (w : World) (hT : XTab w) (A : impl_IsValidLog.f k d p n = some true) (h0 : keep < 0) :
    Calls Tryd.prog 25 #[.agg #[.string d, .string p, .int .i64 n], .int .i64 keep, .bool torn] w fun e w' => e = .returned (.tuple #[.string (⟨#[]⟩ : ByteArray), .bool false]) ∧ Below w.heap.size w w' := by
  have huL := Tryd.underlying33
  have HB := Aside0.mk (Below.refl w.heap.size w)
  have A2 := Aside0.mk A
  clear A
  have HTAB := Aside0.mk hT
  clear hT
  have h0b := decide_eq_true h0
  go_enter Tryd.func25, Tryd.ntmps25
  go_wp2_with (first | ((with_reducible refine gate_dst (N := 3) rfl ?_); refine box_event ?hg (N := 3) ?hd (cs := #[.string d, .string p, .int .i64 n]) (t := 33) ?hr ?_; (case hd => rfl); (case hg => rfl); (case hr => first | (go_simp; done) | (go_simp; rfl)); intro gb hg w1 hbox hb; have n0_ := Aside0.mk (below_step (by repeat (first | (with_reducible first | exact HB.out | apply below_alloc | apply pw_below_drewN | apply below_drew1 | refine below_set ?_ GE.out | refine below_set ?_ GE2.out) | exact HB.out)) hb); have n1_ := Aside0.mk hbox; have n2_ := Aside0.mk ((by rw [hg]; exact (below_size (by repeat (first | (with_reducible first | exact HB.out | apply below_alloc | apply pw_below_drewN | apply below_drew1 | refine below_set ?_ GE.out | refine below_set ?_ GE2.out) | exact HB.out)))) : w.heap.size ≤ gb); clear HB; have HB := n0_; have BK := n1_; have GE := n2_; clear n0_ n1_ n2_; clear hb hbox hg; have hc0_w1 : w1.cell? ⟨gb, 0, none⟩ = some (.string d) := (blk_cell BK.out 0).trans rfl; have hc1_w1 : w1.cell? ⟨gb, 1, none⟩ = some (.string p) := (blk_cell BK.out 1).trans rfl; have hc2_w1 : w1.cell? ⟨gb, 2, none⟩ = some (.int .i64 n) := (blk_cell BK.out 2).trans rfl; have hf0_w1 := blk_frozen BK.out 0; have hf1_w1 := blk_frozen BK.out 1; have hf2_w1 := blk_frozen BK.out 2) | (go_at_call 17; (with_reducible refine (impl_IsValidLog.calls k d p n true _ (XTab.below HTAB.out (by repeat (first | (with_reducible first | exact HB.out | apply below_alloc | apply pw_below_drewN | apply below_drew1 | refine below_set ?_ GE.out | refine below_set ?_ GE2.out) | exact HB.out))) A2.out).mono ?_); rintro e w2 ⟨rfl, hb⟩; have n0_ := Aside0.mk (blk_below (g := gb) (o := .cells #[.string d, .string p, .int .i64 n] 33 (0, 0)) (by (with_reducible repeat (first | refine blk_drewN ?_ _ | refine blk_drew ?_ | refine blk_alloc ?_ _)); exact BK.out) hb); have n1_ := Aside0.mk (below_step (by repeat (first | (with_reducible first | exact HB.out | apply below_alloc | apply pw_below_drewN | apply below_drew1 | refine below_set ?_ GE.out | refine below_set ?_ GE2.out) | exact HB.out)) hb); clear BK; clear HB; have BK := n0_; have HB := n1_; clear n0_ n1_ hb; have hc0_w2 : w2.cell? ⟨gb, 0, none⟩ = some (.string d) := (blk_cell BK.out 0).trans rfl; have hc1_w2 : w2.cell? ⟨gb, 1, none⟩ = some (.string p) := (blk_cell BK.out 1).trans rfl; have hc2_w2 : w2.cell? ⟨gb, 2, none⟩ = some (.int .i64 n) := (blk_cell BK.out 2).trans rfl; have hf0_w2 := blk_frozen BK.out 0; have hf1_w2 := blk_frozen BK.out 1; have hf2_w2 := blk_frozen BK.out 2))
  go_ret2
  exact ⟨by first | rfl | (simp; done), (by repeat (first | (with_reducible first | exact HB.out | apply below_alloc | apply pw_below_drewN | apply below_drew1 | refine below_set ?_ GE.out | refine below_set ?_ GE2.out) | exact HB.out))⟩
set_option maxHeartbeats 8000000 in
set_option maxRecDepth 100000 in
theorem implCrash_out (k : Nat) (d p : ByteArray) (n keep : Int) (torn : Bool) (w : World) (hT : XTab w) (A : impl_IsValidLog.f k d p n = some true) (h0 : ¬ keep < 0) (h1 : (p.size : Int) < keep) :
    Calls Tryd.prog 25 #[.agg #[.string d, .string p, .int .i64 n], .int .i64 keep, .bool torn] w fun e w' => e = .returned (.tuple #[.string (⟨#[]⟩ : ByteArray), .bool false]) ∧ Below w.heap.size w w' := by
  have huL := Tryd.underlying33
  have HB := Aside0.mk (Below.refl w.heap.size w)
  have A2 := Aside0.mk A
  clear A
  have HTAB := Aside0.mk hT
  clear hT
  have h0b := decide_eq_false h0
  have h1b := decide_eq_true h1
  go_enter Tryd.func25, Tryd.ntmps25
  go_wp2_with (first | ((with_reducible refine gate_dst (N := 3) rfl ?_); refine box_event ?hg (N := 3) ?hd (cs := #[.string d, .string p, .int .i64 n]) (t := 33) ?hr ?_; (case hd => rfl); (case hg => rfl); (case hr => first | (go_simp; done) | (go_simp; rfl)); intro gb hg w1 hbox hb; have n0_ := Aside0.mk (below_step (by repeat (first | (with_reducible first | exact HB.out | apply below_alloc | apply pw_below_drewN | apply below_drew1 | refine below_set ?_ GE.out | refine below_set ?_ GE2.out) | exact HB.out)) hb); have n1_ := Aside0.mk hbox; have n2_ := Aside0.mk ((by rw [hg]; exact (below_size (by repeat (first | (with_reducible first | exact HB.out | apply below_alloc | apply pw_below_drewN | apply below_drew1 | refine below_set ?_ GE.out | refine below_set ?_ GE2.out) | exact HB.out)))) : w.heap.size ≤ gb); clear HB; have HB := n0_; have BK := n1_; have GE := n2_; clear n0_ n1_ n2_; clear hb hbox hg; have hc0_w1 : w1.cell? ⟨gb, 0, none⟩ = some (.string d) := (blk_cell BK.out 0).trans rfl; have hc1_w1 : w1.cell? ⟨gb, 1, none⟩ = some (.string p) := (blk_cell BK.out 1).trans rfl; have hc2_w1 : w1.cell? ⟨gb, 2, none⟩ = some (.int .i64 n) := (blk_cell BK.out 2).trans rfl; have hf0_w1 := blk_frozen BK.out 0; have hf1_w1 := blk_frozen BK.out 1; have hf2_w1 := blk_frozen BK.out 2) | (go_at_call 17; (with_reducible refine (impl_IsValidLog.calls k d p n true _ (XTab.below HTAB.out (by repeat (first | (with_reducible first | exact HB.out | apply below_alloc | apply pw_below_drewN | apply below_drew1 | refine below_set ?_ GE.out | refine below_set ?_ GE2.out) | exact HB.out))) A2.out).mono ?_); rintro e w2 ⟨rfl, hb⟩; have n0_ := Aside0.mk (blk_below (g := gb) (o := .cells #[.string d, .string p, .int .i64 n] 33 (0, 0)) (by (with_reducible repeat (first | refine blk_drewN ?_ _ | refine blk_drew ?_ | refine blk_alloc ?_ _)); exact BK.out) hb); have n1_ := Aside0.mk (below_step (by repeat (first | (with_reducible first | exact HB.out | apply below_alloc | apply pw_below_drewN | apply below_drew1 | refine below_set ?_ GE.out | refine below_set ?_ GE2.out) | exact HB.out)) hb); clear BK; clear HB; have BK := n0_; have HB := n1_; clear n0_ n1_ hb; have hc0_w2 : w2.cell? ⟨gb, 0, none⟩ = some (.string d) := (blk_cell BK.out 0).trans rfl; have hc1_w2 : w2.cell? ⟨gb, 1, none⟩ = some (.string p) := (blk_cell BK.out 1).trans rfl; have hc2_w2 : w2.cell? ⟨gb, 2, none⟩ = some (.int .i64 n) := (blk_cell BK.out 2).trans rfl; have hf0_w2 := blk_frozen BK.out 0; have hf1_w2 := blk_frozen BK.out 1; have hf2_w2 := blk_frozen BK.out 2))
  go_ret2
  exact ⟨by first | rfl | (simp; done), (by repeat (first | (with_reducible first | exact HB.out | apply below_alloc | apply pw_below_drewN | apply below_drew1 | refine below_set ?_ GE.out | refine below_set ?_ GE2.out) | exact HB.out))⟩
set_option maxHeartbeats 8000000 in
set_option maxRecDepth 100000 in
theorem implCrash_same (k : Nat) (d p : ByteArray) (n keep : Int)  (w : World) (hT : XTab w) (A : impl_IsValidLog.f k d p n = some true) (h0 : ¬ keep < 0) (h1 : ¬ (p.size : Int) < keep) (q : ByteArray) (hsl : ∀ W : World, (Instr.slice 9 (.string p) none (some (.int .i64 keep)) none).run Tryd.prog W = .ok (.string q) W) (hdq : d.size + q.size ≤ 9223372036854775807) :
    Calls Tryd.prog 25 #[.agg #[.string d, .string p, .int .i64 n], .int .i64 keep, .bool false] w fun e w' => e = .returned (.tuple #[.string (d ++ q), .bool true]) ∧ Below w.heap.size w w' := by
  have huL := Tryd.underlying33
  have HB := Aside0.mk (Below.refl w.heap.size w)
  have A2 := Aside0.mk A
  clear A
  have HTAB := Aside0.mk hT
  clear hT
  have h0b := decide_eq_false h0
  have h1b := decide_eq_false h1
  have hdq2 := eq_true hdq
  have hdq3 : (9223372036854775807 < d.size + q.size) = False := eq_false (Nat.not_lt.2 hdq)
  obtain ⟨G, C, BW, m, hm0, hcv, hG⟩ := conv_all (P := Tryd.prog) 9 22 5 (d ++ q) Tryd.underlying9 Tryd.underlying22 Tryd.underlying5
  have HG := Aside0.mk hG
  have hm := Aside0.mk hm0
  clear hG hm0
  go_enter Tryd.func25, Tryd.ntmps25
  go_wp2_with (first | ((with_reducible refine gate_dst (N := 3) rfl ?_); refine box_event ?hg (N := 3) ?hd (cs := #[.string d, .string p, .int .i64 n]) (t := 33) ?hr ?_; (case hd => rfl); (case hg => rfl); (case hr => first | (go_simp; done) | (go_simp; rfl)); intro gb hg w1 hbox hb; have n0_ := Aside0.mk (below_step (by repeat (first | (with_reducible first | exact HB.out | apply below_alloc | apply pw_below_drewN | apply below_drew1 | refine below_set ?_ GE.out | refine below_set ?_ GE2.out) | exact HB.out)) hb); have n1_ := Aside0.mk hbox; have n2_ := Aside0.mk ((by rw [hg]; exact (below_size (by repeat (first | (with_reducible first | exact HB.out | apply below_alloc | apply pw_below_drewN | apply below_drew1 | refine below_set ?_ GE.out | refine below_set ?_ GE2.out) | exact HB.out)))) : w.heap.size ≤ gb); clear HB; have HB := n0_; have BK := n1_; have GE := n2_; clear n0_ n1_ n2_; clear hb hbox hg; have hc0_w1 : w1.cell? ⟨gb, 0, none⟩ = some (.string d) := (blk_cell BK.out 0).trans rfl; have hc1_w1 : w1.cell? ⟨gb, 1, none⟩ = some (.string p) := (blk_cell BK.out 1).trans rfl; have hc2_w1 : w1.cell? ⟨gb, 2, none⟩ = some (.int .i64 n) := (blk_cell BK.out 2).trans rfl; have hf0_w1 := blk_frozen BK.out 0; have hf1_w1 := blk_frozen BK.out 1; have hf2_w1 := blk_frozen BK.out 2) | (go_at_call 17; (with_reducible refine (impl_IsValidLog.calls k d p n true _ (XTab.below HTAB.out (by repeat (first | (with_reducible first | exact HB.out | apply below_alloc | apply pw_below_drewN | apply below_drew1 | refine below_set ?_ GE.out | refine below_set ?_ GE2.out) | exact HB.out))) A2.out).mono ?_); rintro e w2 ⟨rfl, hb⟩; have n0_ := Aside0.mk (blk_below (g := gb) (o := .cells #[.string d, .string p, .int .i64 n] 33 (0, 0)) (by (with_reducible repeat (first | refine blk_drewN ?_ _ | refine blk_drew ?_ | refine blk_alloc ?_ _)); exact BK.out) hb); have n1_ := Aside0.mk (below_step (by repeat (first | (with_reducible first | exact HB.out | apply below_alloc | apply pw_below_drewN | apply below_drew1 | refine below_set ?_ GE.out | refine below_set ?_ GE2.out) | exact HB.out)) hb); clear BK; clear HB; have BK := n0_; have HB := n1_; clear n0_ n1_ hb; have hc0_w2 : w2.cell? ⟨gb, 0, none⟩ = some (.string d) := (blk_cell BK.out 0).trans rfl; have hc1_w2 : w2.cell? ⟨gb, 1, none⟩ = some (.string p) := (blk_cell BK.out 1).trans rfl; have hc2_w2 : w2.cell? ⟨gb, 2, none⟩ = some (.int .i64 n) := (blk_cell BK.out 2).trans rfl; have hf0_w2 := blk_frozen BK.out 0; have hf1_w2 := blk_frozen BK.out 1; have hf2_w2 := blk_frozen BK.out 2))
  obtain ⟨hge, hby, hb⟩ := HG.out w2.drew
  have hc2 := hcv w2.drew
  clear hcv HG
  generalize BW w2.drew = w3 at hby hb hc2
  generalize G w2.drew = gc at hge hby hc2
  generalize C w2.drew = cc at hc2
  have n0_ := Aside0.mk (blk_below (g := gb) (o := .cells #[.string d, .string p, .int .i64 n] 33 (0, 0)) (by (with_reducible repeat (first | refine blk_drewN ?_ _ | refine blk_drew ?_ | refine blk_alloc ?_ _)); exact BK.out) hb); have n1_ := Aside0.mk (below_step (by repeat (first | (with_reducible first | exact HB.out | apply below_alloc | apply pw_below_drewN | apply below_drew1 | refine below_set ?_ GE.out | refine below_set ?_ GE2.out) | exact HB.out)) hb); have YB := Aside0.mk hby; have GE2 := Aside0.mk (Nat.le_trans (below_size (by repeat (first | (with_reducible first | exact HB.out | apply below_alloc | apply pw_below_drewN | apply below_drew1 | refine below_set ?_ GE.out | refine below_set ?_ GE2.out) | exact HB.out))) hge : w.heap.size ≤ gc); have NE := Aside0.mk (Nat.ne_of_gt (Nat.lt_of_lt_of_le (blk_lt (g := gb) (o := .cells #[.string d, .string p, .int .i64 n] 33 (0, 0)) (by (with_reducible repeat (first | refine blk_drewN ?_ _ | refine blk_drew ?_ | refine blk_alloc ?_ _)); exact BK.out)) hge) : gc ≠ gb); have BK3 := n0_; have HB3 := n1_; clear n0_ n1_ hb hby hge; clear BK HB; have BK := BK3; have HB := HB3; clear BK3 HB3; have hc0_w3 : w3.cell? ⟨gb, 0, none⟩ = some (.string d) := (blk_cell BK.out 0).trans rfl; have hc1_w3 : w3.cell? ⟨gb, 1, none⟩ = some (.string p) := (blk_cell BK.out 1).trans rfl; have hc2_w3 : w3.cell? ⟨gb, 2, none⟩ = some (.int .i64 n) := (blk_cell BK.out 2).trans rfl; have hf0_w3 := blk_frozen BK.out 0; have hf1_w3 := blk_frozen BK.out 1; have hf2_w3 := blk_frozen BK.out 2; have hbk : (convert 22 9 (.slice (some ⟨gc, 0, none⟩) m cc)).run Tryd.prog w3 = .ok (.string (d ++ q)) w3 := (by rw [hm.out]; exact Lib.run_convert_whole (P := Tryd.prog) w3 22 5 9 Tryd.underlying22 Tryd.underlying5 Tryd.underlying9 gc 0 (d ++ q) YB.out.1 cc)
  refine wp_region_held_drew (S := fun W => W.cell? ⟨gb, 0, none⟩ = some (.string d) ∧ W.cell? ⟨gb, 1, none⟩ = some (.string p)) (by kernel_rfl) ?hS (fun hHeld => ?hrest)
  case hS => exact ⟨hc0_w2, hc1_w2⟩
  refine wpAnyH_take (i := 0) (oi := ?oir0) (v := ?vr0) ?hir0 (by kernel_rfl) (by kernel_rfl) (by kernel_rfl) ?hQr0 ?hyr0 hHeld ?hr0
  case hir0 => (simp only [List.getElem?_toArray, List.getElem?_cons_succ, List.getElem?_cons_zero]; rfl)
  case hQr0 => exact fun _ _ _ h => h
  case hyr0 => exact Or.inl ⟨by rfl, by intro w_ hSw; (try dsimp only at hSw); first | (go_simp; done) | (go_simp; with_reducible rfl)⟩
  try simp only [Act.put, List.setIfInBounds_toArray, List.set_cons_zero, List.set_cons_succ]
  refine wpAnyH_take (i := 1) (oi := ?oir1) (v := ?vr1) ?hir1 (by kernel_rfl) (by kernel_rfl) (by kernel_rfl) ?hQr1 ?hyr1 hHeld ?hr1
  case hir1 => (simp only [List.getElem?_toArray, List.getElem?_cons_succ, List.getElem?_cons_zero]; rfl)
  case hQr1 => exact fun _ _ _ h => h
  case hyr1 => exact Or.inl ⟨by rfl, by intro w_ hSw; (try dsimp only at hSw); first | (go_simp; done) | (go_simp; with_reducible rfl)⟩
  try simp only [Act.put, List.setIfInBounds_toArray, List.set_cons_zero, List.set_cons_succ]
  refine wpAnyH_take (i := 2) (oi := ?oir2) (v := ?vr2) ?hir2 (by kernel_rfl) (by kernel_rfl) (by kernel_rfl) ?hQr2 ?hyr2 hHeld ?hr2
  case hir2 => (simp only [List.getElem?_toArray, List.getElem?_cons_succ, List.getElem?_cons_zero]; rfl)
  case hQr2 => exact fun _ _ _ h => h
  case hyr2 => exact Or.inl ⟨by rfl, by intro w_ hSw; (try dsimp only at hSw); first | (go_simp; done) | (go_simp; with_reducible rfl)⟩
  try simp only [Act.put, List.setIfInBounds_toArray, List.set_cons_zero, List.set_cons_succ]
  refine wpAnyH_take (i := 3) (oi := ?oir3) (v := ?vr3) ?hir3 (by kernel_rfl) (by kernel_rfl) (by kernel_rfl) ?hQr3 ?hyr3 hHeld ?hr3
  case hir3 => (simp only [List.getElem?_toArray, List.getElem?_cons_succ, List.getElem?_cons_zero]; rfl)
  case hQr3 => exact fun _ _ _ h => h
  case hyr3 => exact Or.inl ⟨by rfl, by intro w_ hSw; (try dsimp only at hSw); first | (go_simp; done) | (go_simp; with_reducible rfl)⟩
  try simp only [Act.put, List.setIfInBounds_toArray, List.set_cons_zero, List.set_cons_succ]
  refine wpAnyH_take (i := 4) (oi := ?oir4) (v := ?vr4) ?hir4 (by kernel_rfl) (by kernel_rfl) (by kernel_rfl) ?hQr4 ?hyr4 hHeld ?hr4
  case hir4 => (simp only [List.getElem?_toArray, List.getElem?_cons_succ, List.getElem?_cons_zero]; rfl)
  case hQr4 => exact fun _ _ _ h => h
  case hyr4 => exact Or.inl ⟨by rfl, by intro w_ hSw; (try dsimp only at hSw); first | (go_simp; done) | (go_simp; with_reducible rfl)⟩
  try simp only [Act.put, List.setIfInBounds_toArray, List.set_cons_zero, List.set_cons_succ]
  refine wpAnyH_take (i := 5) (oi := ?oir5) (v := ?vr5) ?hir5 (by kernel_rfl) (by kernel_rfl) (by kernel_rfl) ?hQr5 ?hyr5 hHeld ?hr5
  case hir5 => (simp only [List.getElem?_toArray, List.getElem?_cons_succ, List.getElem?_cons_zero]; rfl)
  case hQr5 => exact fun _ _ _ h => h
  case hyr5 => exact Or.inl ⟨by rfl, by intro w_ hSw; (try dsimp only at hSw); first | (go_simp; done) | (go_simp; with_reducible rfl)⟩
  try simp only [Act.put, List.setIfInBounds_toArray, List.set_cons_zero, List.set_cons_succ]
  refine wpAnyH_take (i := 6) (oi := ?oir6) (v := ?vr6) ?hir6 (by kernel_rfl) (by kernel_rfl) (by kernel_rfl) ?hQr6 ?hyr6 hHeld ?hr6
  case hir6 => (simp only [List.getElem?_toArray, List.getElem?_cons_succ, List.getElem?_cons_zero]; rfl)
  case hQr6 => exact fun _ _ _ h => h
  case hyr6 => exact Or.inl ⟨by rfl, by intro w_ hSw; (try dsimp only at hSw); first | (go_simp; done) | (go_simp; with_reducible rfl)⟩
  try simp only [Act.put, List.setIfInBounds_toArray, List.set_cons_zero, List.set_cons_succ]
  refine wpAnyH_ready (rs := [7]) (by kernel_rfl) (by simp) ?_
  refine AllReadyH.cons (o := ?oc7) ?hc7 (fun K hK => ?hk7) AllReadyH.nil
  case hc7 => (simp only [List.getElem?_toArray, List.getElem?_cons_succ, List.getElem?_cons_zero]; rfl)
  go_simp
  go_wp2
  refine hK.out _ _ ?_ (fun hHeld => ?_)
  · exact ⟨hc0_w3, hc1_w3⟩
  clear hK K
  try simp only [Act.put, List.setIfInBounds_toArray, List.set_cons_zero, List.set_cons_succ]
  refine wpAnyH_take (i := 8) (oi := ?oir8) (v := ?vr8) ?hir8 (by kernel_rfl) (by kernel_rfl) (by kernel_rfl) ?hQr8 ?hyr8 hHeld ?hr8
  case hir8 => (simp only [List.getElem?_toArray, List.getElem?_cons_succ, List.getElem?_cons_zero]; rfl)
  case hQr8 => exact fun _ _ _ h => h
  case hyr8 => exact Or.inl ⟨by rfl, by intro w_ hSw; (try dsimp only at hSw); first | (go_simp; done) | (go_simp; with_reducible rfl)⟩
  try simp only [Act.put, List.setIfInBounds_toArray, List.set_cons_zero, List.set_cons_succ]
  refine wpAnyH_done (by kernel_rfl) ?_ _
  go_wp2
  go_ret2
  exact ⟨by first | rfl | (simp; done), (by repeat (first | (with_reducible first | exact HB.out | apply below_alloc | apply pw_below_drewN | apply below_drew1 | refine below_set ?_ GE.out | refine below_set ?_ GE2.out) | exact HB.out))⟩
set_option maxHeartbeats 8000000 in
set_option maxRecDepth 100000 in
theorem implCrash_zero (k : Nat) (d p : ByteArray) (n keep : Int)  (w : World) (hT : XTab w) (A : impl_IsValidLog.f k d p n = some true) (h0 : ¬ keep < 0) (h1 : ¬ (p.size : Int) < keep) (q : ByteArray) (hsl : ∀ W : World, (Instr.slice 9 (.string p) none (some (.int .i64 keep)) none).run Tryd.prog W = .ok (.string q) W) (hdq : d.size + q.size ≤ 9223372036854775807) (hk : ¬ 0 < keep) :
    Calls Tryd.prog 25 #[.agg #[.string d, .string p, .int .i64 n], .int .i64 keep, .bool true] w fun e w' => e = .returned (.tuple #[.string (d ++ q), .bool true]) ∧ Below w.heap.size w w' := by
  have huL := Tryd.underlying33
  have HB := Aside0.mk (Below.refl w.heap.size w)
  have A2 := Aside0.mk A
  clear A
  have HTAB := Aside0.mk hT
  clear hT
  have h0b := decide_eq_false h0
  have h1b := decide_eq_false h1
  have hdq2 := eq_true hdq
  have hdq3 : (9223372036854775807 < d.size + q.size) = False := eq_false (Nat.not_lt.2 hdq)
  obtain ⟨G, C, BW, m, hm0, hcv, hG⟩ := conv_all (P := Tryd.prog) 9 22 5 (d ++ q) Tryd.underlying9 Tryd.underlying22 Tryd.underlying5
  have HG := Aside0.mk hG
  have hm := Aside0.mk hm0
  clear hG hm0
  have hk2 : decide (0 < keep) = false := decide_eq_false hk
  go_enter Tryd.func25, Tryd.ntmps25
  go_wp2_with (first | ((with_reducible refine gate_dst (N := 3) rfl ?_); refine box_event ?hg (N := 3) ?hd (cs := #[.string d, .string p, .int .i64 n]) (t := 33) ?hr ?_; (case hd => rfl); (case hg => rfl); (case hr => first | (go_simp; done) | (go_simp; rfl)); intro gb hg w1 hbox hb; have n0_ := Aside0.mk (below_step (by repeat (first | (with_reducible first | exact HB.out | apply below_alloc | apply pw_below_drewN | apply below_drew1 | refine below_set ?_ GE.out | refine below_set ?_ GE2.out) | exact HB.out)) hb); have n1_ := Aside0.mk hbox; have n2_ := Aside0.mk ((by rw [hg]; exact (below_size (by repeat (first | (with_reducible first | exact HB.out | apply below_alloc | apply pw_below_drewN | apply below_drew1 | refine below_set ?_ GE.out | refine below_set ?_ GE2.out) | exact HB.out)))) : w.heap.size ≤ gb); clear HB; have HB := n0_; have BK := n1_; have GE := n2_; clear n0_ n1_ n2_; clear hb hbox hg; have hc0_w1 : w1.cell? ⟨gb, 0, none⟩ = some (.string d) := (blk_cell BK.out 0).trans rfl; have hc1_w1 : w1.cell? ⟨gb, 1, none⟩ = some (.string p) := (blk_cell BK.out 1).trans rfl; have hc2_w1 : w1.cell? ⟨gb, 2, none⟩ = some (.int .i64 n) := (blk_cell BK.out 2).trans rfl; have hf0_w1 := blk_frozen BK.out 0; have hf1_w1 := blk_frozen BK.out 1; have hf2_w1 := blk_frozen BK.out 2) | (go_at_call 17; (with_reducible refine (impl_IsValidLog.calls k d p n true _ (XTab.below HTAB.out (by repeat (first | (with_reducible first | exact HB.out | apply below_alloc | apply pw_below_drewN | apply below_drew1 | refine below_set ?_ GE.out | refine below_set ?_ GE2.out) | exact HB.out))) A2.out).mono ?_); rintro e w2 ⟨rfl, hb⟩; have n0_ := Aside0.mk (blk_below (g := gb) (o := .cells #[.string d, .string p, .int .i64 n] 33 (0, 0)) (by (with_reducible repeat (first | refine blk_drewN ?_ _ | refine blk_drew ?_ | refine blk_alloc ?_ _)); exact BK.out) hb); have n1_ := Aside0.mk (below_step (by repeat (first | (with_reducible first | exact HB.out | apply below_alloc | apply pw_below_drewN | apply below_drew1 | refine below_set ?_ GE.out | refine below_set ?_ GE2.out) | exact HB.out)) hb); clear BK; clear HB; have BK := n0_; have HB := n1_; clear n0_ n1_ hb; have hc0_w2 : w2.cell? ⟨gb, 0, none⟩ = some (.string d) := (blk_cell BK.out 0).trans rfl; have hc1_w2 : w2.cell? ⟨gb, 1, none⟩ = some (.string p) := (blk_cell BK.out 1).trans rfl; have hc2_w2 : w2.cell? ⟨gb, 2, none⟩ = some (.int .i64 n) := (blk_cell BK.out 2).trans rfl; have hf0_w2 := blk_frozen BK.out 0; have hf1_w2 := blk_frozen BK.out 1; have hf2_w2 := blk_frozen BK.out 2))
  obtain ⟨hge, hby, hb⟩ := HG.out w2.drew
  have hc2 := hcv w2.drew
  clear hcv HG
  generalize BW w2.drew = w3 at hby hb hc2
  generalize G w2.drew = gc at hge hby hc2
  generalize C w2.drew = cc at hc2
  have n0_ := Aside0.mk (blk_below (g := gb) (o := .cells #[.string d, .string p, .int .i64 n] 33 (0, 0)) (by (with_reducible repeat (first | refine blk_drewN ?_ _ | refine blk_drew ?_ | refine blk_alloc ?_ _)); exact BK.out) hb); have n1_ := Aside0.mk (below_step (by repeat (first | (with_reducible first | exact HB.out | apply below_alloc | apply pw_below_drewN | apply below_drew1 | refine below_set ?_ GE.out | refine below_set ?_ GE2.out) | exact HB.out)) hb); have YB := Aside0.mk hby; have GE2 := Aside0.mk (Nat.le_trans (below_size (by repeat (first | (with_reducible first | exact HB.out | apply below_alloc | apply pw_below_drewN | apply below_drew1 | refine below_set ?_ GE.out | refine below_set ?_ GE2.out) | exact HB.out))) hge : w.heap.size ≤ gc); have NE := Aside0.mk (Nat.ne_of_gt (Nat.lt_of_lt_of_le (blk_lt (g := gb) (o := .cells #[.string d, .string p, .int .i64 n] 33 (0, 0)) (by (with_reducible repeat (first | refine blk_drewN ?_ _ | refine blk_drew ?_ | refine blk_alloc ?_ _)); exact BK.out)) hge) : gc ≠ gb); have BK3 := n0_; have HB3 := n1_; clear n0_ n1_ hb hby hge; clear BK HB; have BK := BK3; have HB := HB3; clear BK3 HB3; have hc0_w3 : w3.cell? ⟨gb, 0, none⟩ = some (.string d) := (blk_cell BK.out 0).trans rfl; have hc1_w3 : w3.cell? ⟨gb, 1, none⟩ = some (.string p) := (blk_cell BK.out 1).trans rfl; have hc2_w3 : w3.cell? ⟨gb, 2, none⟩ = some (.int .i64 n) := (blk_cell BK.out 2).trans rfl; have hf0_w3 := blk_frozen BK.out 0; have hf1_w3 := blk_frozen BK.out 1; have hf2_w3 := blk_frozen BK.out 2; have hbk : (convert 22 9 (.slice (some ⟨gc, 0, none⟩) m cc)).run Tryd.prog w3 = .ok (.string (d ++ q)) w3 := (by rw [hm.out]; exact Lib.run_convert_whole (P := Tryd.prog) w3 22 5 9 Tryd.underlying22 Tryd.underlying5 Tryd.underlying9 gc 0 (d ++ q) YB.out.1 cc)
  refine wp_region_held_drew (S := fun W => W.cell? ⟨gb, 0, none⟩ = some (.string d) ∧ W.cell? ⟨gb, 1, none⟩ = some (.string p)) (by kernel_rfl) ?hS (fun hHeld => ?hrest)
  case hS => exact ⟨hc0_w2, hc1_w2⟩
  refine wpAnyH_take (i := 0) (oi := ?oir0) (v := ?vr0) ?hir0 (by kernel_rfl) (by kernel_rfl) (by kernel_rfl) ?hQr0 ?hyr0 hHeld ?hr0
  case hir0 => (simp only [List.getElem?_toArray, List.getElem?_cons_succ, List.getElem?_cons_zero]; rfl)
  case hQr0 => exact fun _ _ _ h => h
  case hyr0 => exact Or.inl ⟨by rfl, by intro w_ hSw; (try dsimp only at hSw); first | (go_simp; done) | (go_simp; with_reducible rfl)⟩
  try simp only [Act.put, List.setIfInBounds_toArray, List.set_cons_zero, List.set_cons_succ]
  refine wpAnyH_take (i := 1) (oi := ?oir1) (v := ?vr1) ?hir1 (by kernel_rfl) (by kernel_rfl) (by kernel_rfl) ?hQr1 ?hyr1 hHeld ?hr1
  case hir1 => (simp only [List.getElem?_toArray, List.getElem?_cons_succ, List.getElem?_cons_zero]; rfl)
  case hQr1 => exact fun _ _ _ h => h
  case hyr1 => exact Or.inl ⟨by rfl, by intro w_ hSw; (try dsimp only at hSw); first | (go_simp; done) | (go_simp; with_reducible rfl)⟩
  try simp only [Act.put, List.setIfInBounds_toArray, List.set_cons_zero, List.set_cons_succ]
  refine wpAnyH_take (i := 2) (oi := ?oir2) (v := ?vr2) ?hir2 (by kernel_rfl) (by kernel_rfl) (by kernel_rfl) ?hQr2 ?hyr2 hHeld ?hr2
  case hir2 => (simp only [List.getElem?_toArray, List.getElem?_cons_succ, List.getElem?_cons_zero]; rfl)
  case hQr2 => exact fun _ _ _ h => h
  case hyr2 => exact Or.inl ⟨by rfl, by intro w_ hSw; (try dsimp only at hSw); first | (go_simp; done) | (go_simp; with_reducible rfl)⟩
  try simp only [Act.put, List.setIfInBounds_toArray, List.set_cons_zero, List.set_cons_succ]
  refine wpAnyH_take (i := 3) (oi := ?oir3) (v := ?vr3) ?hir3 (by kernel_rfl) (by kernel_rfl) (by kernel_rfl) ?hQr3 ?hyr3 hHeld ?hr3
  case hir3 => (simp only [List.getElem?_toArray, List.getElem?_cons_succ, List.getElem?_cons_zero]; rfl)
  case hQr3 => exact fun _ _ _ h => h
  case hyr3 => exact Or.inl ⟨by rfl, by intro w_ hSw; (try dsimp only at hSw); first | (go_simp; done) | (go_simp; with_reducible rfl)⟩
  try simp only [Act.put, List.setIfInBounds_toArray, List.set_cons_zero, List.set_cons_succ]
  refine wpAnyH_take (i := 4) (oi := ?oir4) (v := ?vr4) ?hir4 (by kernel_rfl) (by kernel_rfl) (by kernel_rfl) ?hQr4 ?hyr4 hHeld ?hr4
  case hir4 => (simp only [List.getElem?_toArray, List.getElem?_cons_succ, List.getElem?_cons_zero]; rfl)
  case hQr4 => exact fun _ _ _ h => h
  case hyr4 => exact Or.inl ⟨by rfl, by intro w_ hSw; (try dsimp only at hSw); first | (go_simp; done) | (go_simp; with_reducible rfl)⟩
  try simp only [Act.put, List.setIfInBounds_toArray, List.set_cons_zero, List.set_cons_succ]
  refine wpAnyH_take (i := 5) (oi := ?oir5) (v := ?vr5) ?hir5 (by kernel_rfl) (by kernel_rfl) (by kernel_rfl) ?hQr5 ?hyr5 hHeld ?hr5
  case hir5 => (simp only [List.getElem?_toArray, List.getElem?_cons_succ, List.getElem?_cons_zero]; rfl)
  case hQr5 => exact fun _ _ _ h => h
  case hyr5 => exact Or.inl ⟨by rfl, by intro w_ hSw; (try dsimp only at hSw); first | (go_simp; done) | (go_simp; with_reducible rfl)⟩
  try simp only [Act.put, List.setIfInBounds_toArray, List.set_cons_zero, List.set_cons_succ]
  refine wpAnyH_take (i := 6) (oi := ?oir6) (v := ?vr6) ?hir6 (by kernel_rfl) (by kernel_rfl) (by kernel_rfl) ?hQr6 ?hyr6 hHeld ?hr6
  case hir6 => (simp only [List.getElem?_toArray, List.getElem?_cons_succ, List.getElem?_cons_zero]; rfl)
  case hQr6 => exact fun _ _ _ h => h
  case hyr6 => exact Or.inl ⟨by rfl, by intro w_ hSw; (try dsimp only at hSw); first | (go_simp; done) | (go_simp; with_reducible rfl)⟩
  try simp only [Act.put, List.setIfInBounds_toArray, List.set_cons_zero, List.set_cons_succ]
  refine wpAnyH_ready (rs := [7]) (by kernel_rfl) (by simp) ?_
  refine AllReadyH.cons (o := ?oc7) ?hc7 (fun K hK => ?hk7) AllReadyH.nil
  case hc7 => (simp only [List.getElem?_toArray, List.getElem?_cons_succ, List.getElem?_cons_zero]; rfl)
  go_simp
  go_wp2
  refine hK.out _ _ ?_ (fun hHeld => ?_)
  · exact ⟨hc0_w3, hc1_w3⟩
  clear hK K
  try simp only [Act.put, List.setIfInBounds_toArray, List.set_cons_zero, List.set_cons_succ]
  refine wpAnyH_take (i := 8) (oi := ?oir8) (v := ?vr8) ?hir8 (by kernel_rfl) (by kernel_rfl) (by kernel_rfl) ?hQr8 ?hyr8 hHeld ?hr8
  case hir8 => (simp only [List.getElem?_toArray, List.getElem?_cons_succ, List.getElem?_cons_zero]; rfl)
  case hQr8 => exact fun _ _ _ h => h
  case hyr8 => exact Or.inl ⟨by rfl, by intro w_ hSw; (try dsimp only at hSw); first | (go_simp; done) | (go_simp; with_reducible rfl)⟩
  try simp only [Act.put, List.setIfInBounds_toArray, List.set_cons_zero, List.set_cons_succ]
  refine wpAnyH_done (by kernel_rfl) ?_ _
  go_wp2
  go_ret2
  exact ⟨by first | rfl | (simp; done), (by repeat (first | (with_reducible first | exact HB.out | apply below_alloc | apply pw_below_drewN | apply below_drew1 | refine below_set ?_ GE.out | refine below_set ?_ GE2.out) | exact HB.out))⟩
set_option maxHeartbeats 8000000 in
set_option maxRecDepth 100000 in
theorem implCrash_turn (k : Nat) (d p : ByteArray) (n keep : Int)  (w : World) (hT : XTab w) (A : impl_IsValidLog.f k d p n = some true) (h0 : ¬ keep < 0) (h1 : ¬ (p.size : Int) < keep) (q : ByteArray) (hsl : ∀ W : World, (Instr.slice 9 (.string p) none (some (.int .i64 keep)) none).run Tryd.prog W = .ok (.string q) W) (hdq : d.size + q.size ≤ 9223372036854775807) (j : Nat) (hjs : (d ++ q).size = j + 1) (hk : 0 < keep) :
    Calls Tryd.prog 25 #[.agg #[.string d, .string p, .int .i64 n], .int .i64 keep, .bool true] w fun e w' => e = .returned (.tuple #[.string (turnT (d ++ q) j), .bool true]) ∧ Below w.heap.size w w' := by
  have huL := Tryd.underlying33
  have HB := Aside0.mk (Below.refl w.heap.size w)
  have A2 := Aside0.mk A
  clear A
  have HTAB := Aside0.mk hT
  clear hT
  have h0b := decide_eq_false h0
  have h1b := decide_eq_false h1
  have hdq2 := eq_true hdq
  have hdq3 : (9223372036854775807 < d.size + q.size) = False := eq_false (Nat.not_lt.2 hdq)
  obtain ⟨G, C, BW, m, hm0, hcv, hG⟩ := conv_all (P := Tryd.prog) 9 22 5 (d ++ q) Tryd.underlying9 Tryd.underlying22 Tryd.underlying5
  have HG := Aside0.mk hG
  have hm := Aside0.mk hm0
  clear hG hm0
  have hk2 : decide (0 < keep) = true := decide_eq_true hk
  have hj : j < (d ++ q).size := by omega
  obtain ⟨b, hbb⟩ : ∃ b, b = (bytesOf (d ++ q)).getD j 0 := ⟨_, rfl⟩
  have HBB := Aside0.mk hbb
  have hb0 : 0 ≤ b ∧ b ≤ 255 := (by rw [hbb, byte_getD (d ++ q) j hj]; have := (d ++ q)[j].toNat_lt; omega)
  have hz : (d ++ q).size = d.size + q.size := by simp
  have hjm : (j : Int) < (m : Int) := by rw [hm.out]; omega
  have hjm2 := decide_eq_true hjm
  have hw8 : (255 - b) % 256 = 255 - b := by omega
  have hmj : (m : Int) - 1 = (j : Int) := by rw [hm.out, hjs]; omega
  have hwj : wrap64 (j : Int) = (j : Int) := by have := hm.out; unfold wrap64; omega
  clear hbb hz
  go_enter Tryd.func25, Tryd.ntmps25
  go_wp2_with (first | ((with_reducible refine gate_dst (N := 3) rfl ?_); refine box_event ?hg (N := 3) ?hd (cs := #[.string d, .string p, .int .i64 n]) (t := 33) ?hr ?_; (case hd => rfl); (case hg => rfl); (case hr => first | (go_simp; done) | (go_simp; rfl)); intro gb hg w1 hbox hb; have n0_ := Aside0.mk (below_step (by repeat (first | (with_reducible first | exact HB.out | apply below_alloc | apply pw_below_drewN | apply below_drew1 | refine below_set ?_ GE.out | refine below_set ?_ GE2.out) | exact HB.out)) hb); have n1_ := Aside0.mk hbox; have n2_ := Aside0.mk ((by rw [hg]; exact (below_size (by repeat (first | (with_reducible first | exact HB.out | apply below_alloc | apply pw_below_drewN | apply below_drew1 | refine below_set ?_ GE.out | refine below_set ?_ GE2.out) | exact HB.out)))) : w.heap.size ≤ gb); clear HB; have HB := n0_; have BK := n1_; have GE := n2_; clear n0_ n1_ n2_; clear hb hbox hg; have hc0_w1 : w1.cell? ⟨gb, 0, none⟩ = some (.string d) := (blk_cell BK.out 0).trans rfl; have hc1_w1 : w1.cell? ⟨gb, 1, none⟩ = some (.string p) := (blk_cell BK.out 1).trans rfl; have hc2_w1 : w1.cell? ⟨gb, 2, none⟩ = some (.int .i64 n) := (blk_cell BK.out 2).trans rfl; have hf0_w1 := blk_frozen BK.out 0; have hf1_w1 := blk_frozen BK.out 1; have hf2_w1 := blk_frozen BK.out 2) | (go_at_call 17; (with_reducible refine (impl_IsValidLog.calls k d p n true _ (XTab.below HTAB.out (by repeat (first | (with_reducible first | exact HB.out | apply below_alloc | apply pw_below_drewN | apply below_drew1 | refine below_set ?_ GE.out | refine below_set ?_ GE2.out) | exact HB.out))) A2.out).mono ?_); rintro e w2 ⟨rfl, hb⟩; have n0_ := Aside0.mk (blk_below (g := gb) (o := .cells #[.string d, .string p, .int .i64 n] 33 (0, 0)) (by (with_reducible repeat (first | refine blk_drewN ?_ _ | refine blk_drew ?_ | refine blk_alloc ?_ _)); exact BK.out) hb); have n1_ := Aside0.mk (below_step (by repeat (first | (with_reducible first | exact HB.out | apply below_alloc | apply pw_below_drewN | apply below_drew1 | refine below_set ?_ GE.out | refine below_set ?_ GE2.out) | exact HB.out)) hb); clear BK; clear HB; have BK := n0_; have HB := n1_; clear n0_ n1_ hb; have hc0_w2 : w2.cell? ⟨gb, 0, none⟩ = some (.string d) := (blk_cell BK.out 0).trans rfl; have hc1_w2 : w2.cell? ⟨gb, 1, none⟩ = some (.string p) := (blk_cell BK.out 1).trans rfl; have hc2_w2 : w2.cell? ⟨gb, 2, none⟩ = some (.int .i64 n) := (blk_cell BK.out 2).trans rfl; have hf0_w2 := blk_frozen BK.out 0; have hf1_w2 := blk_frozen BK.out 1; have hf2_w2 := blk_frozen BK.out 2))
  obtain ⟨hge, hby, hb⟩ := HG.out w2.drew
  have hc2 := hcv w2.drew
  clear hcv HG
  generalize BW w2.drew = w3 at hby hb hc2
  generalize G w2.drew = gc at hge hby hc2
  generalize C w2.drew = cc at hc2
  have n0_ := Aside0.mk (blk_below (g := gb) (o := .cells #[.string d, .string p, .int .i64 n] 33 (0, 0)) (by (with_reducible repeat (first | refine blk_drewN ?_ _ | refine blk_drew ?_ | refine blk_alloc ?_ _)); exact BK.out) hb); have n1_ := Aside0.mk (below_step (by repeat (first | (with_reducible first | exact HB.out | apply below_alloc | apply pw_below_drewN | apply below_drew1 | refine below_set ?_ GE.out | refine below_set ?_ GE2.out) | exact HB.out)) hb); have YB := Aside0.mk hby; have GE2 := Aside0.mk (Nat.le_trans (below_size (by repeat (first | (with_reducible first | exact HB.out | apply below_alloc | apply pw_below_drewN | apply below_drew1 | refine below_set ?_ GE.out | refine below_set ?_ GE2.out) | exact HB.out))) hge : w.heap.size ≤ gc); have NE := Aside0.mk (Nat.ne_of_gt (Nat.lt_of_lt_of_le (blk_lt (g := gb) (o := .cells #[.string d, .string p, .int .i64 n] 33 (0, 0)) (by (with_reducible repeat (first | refine blk_drewN ?_ _ | refine blk_drew ?_ | refine blk_alloc ?_ _)); exact BK.out)) hge) : gc ≠ gb); have BK3 := n0_; have HB3 := n1_; clear n0_ n1_ hb hby hge; clear BK HB; have BK := BK3; have HB := HB3; clear BK3 HB3; have hc0_w3 : w3.cell? ⟨gb, 0, none⟩ = some (.string d) := (blk_cell BK.out 0).trans rfl; have hc1_w3 : w3.cell? ⟨gb, 1, none⟩ = some (.string p) := (blk_cell BK.out 1).trans rfl; have hc2_w3 : w3.cell? ⟨gb, 2, none⟩ = some (.int .i64 n) := (blk_cell BK.out 2).trans rfl; have hf0_w3 := blk_frozen BK.out 0; have hf1_w3 := blk_frozen BK.out 1; have hf2_w3 := blk_frozen BK.out 2; have hcj : w3.cell? ⟨gc, j, none⟩ = some (.int .u8 b) := (by have := YB.out.1 j hj; rw [Nat.zero_add] at this; rw [this, HBB.out, byte_getD (d ++ q) j hj]); have hfj : w3.frozen? ⟨gc, j, none⟩ = false := YB.out.2 j hj; have hbk0 := Lib.run_convert_whole (P := Tryd.prog) (w3.setCell ⟨gc, j, none⟩ (.int .u8 (255 - b))) 22 5 9 Tryd.underlying22 Tryd.underlying5 Tryd.underlying9 gc 0 (turnT (d ++ q) j) (by rw [HBB.out]; exact bytes_turn YB.out.1 j hj) cc; rw [turn_size, ← hm.out] at hbk0
  refine wp_region_held_drew (S := fun W => W.cell? ⟨gb, 0, none⟩ = some (.string d) ∧ W.cell? ⟨gb, 1, none⟩ = some (.string p)) (by kernel_rfl) ?hS (fun hHeld => ?hrest)
  case hS => exact ⟨hc0_w2, hc1_w2⟩
  refine wpAnyH_take (i := 0) (oi := ?oir0) (v := ?vr0) ?hir0 (by kernel_rfl) (by kernel_rfl) (by kernel_rfl) ?hQr0 ?hyr0 hHeld ?hr0
  case hir0 => (simp only [List.getElem?_toArray, List.getElem?_cons_succ, List.getElem?_cons_zero]; rfl)
  case hQr0 => exact fun _ _ _ h => h
  case hyr0 => exact Or.inl ⟨by rfl, by intro w_ hSw; (try dsimp only at hSw); first | (go_simp; done) | (go_simp; with_reducible rfl)⟩
  try simp only [Act.put, List.setIfInBounds_toArray, List.set_cons_zero, List.set_cons_succ]
  refine wpAnyH_take (i := 1) (oi := ?oir1) (v := ?vr1) ?hir1 (by kernel_rfl) (by kernel_rfl) (by kernel_rfl) ?hQr1 ?hyr1 hHeld ?hr1
  case hir1 => (simp only [List.getElem?_toArray, List.getElem?_cons_succ, List.getElem?_cons_zero]; rfl)
  case hQr1 => exact fun _ _ _ h => h
  case hyr1 => exact Or.inl ⟨by rfl, by intro w_ hSw; (try dsimp only at hSw); first | (go_simp; done) | (go_simp; with_reducible rfl)⟩
  try simp only [Act.put, List.setIfInBounds_toArray, List.set_cons_zero, List.set_cons_succ]
  refine wpAnyH_take (i := 2) (oi := ?oir2) (v := ?vr2) ?hir2 (by kernel_rfl) (by kernel_rfl) (by kernel_rfl) ?hQr2 ?hyr2 hHeld ?hr2
  case hir2 => (simp only [List.getElem?_toArray, List.getElem?_cons_succ, List.getElem?_cons_zero]; rfl)
  case hQr2 => exact fun _ _ _ h => h
  case hyr2 => exact Or.inl ⟨by rfl, by intro w_ hSw; (try dsimp only at hSw); first | (go_simp; done) | (go_simp; with_reducible rfl)⟩
  try simp only [Act.put, List.setIfInBounds_toArray, List.set_cons_zero, List.set_cons_succ]
  refine wpAnyH_take (i := 3) (oi := ?oir3) (v := ?vr3) ?hir3 (by kernel_rfl) (by kernel_rfl) (by kernel_rfl) ?hQr3 ?hyr3 hHeld ?hr3
  case hir3 => (simp only [List.getElem?_toArray, List.getElem?_cons_succ, List.getElem?_cons_zero]; rfl)
  case hQr3 => exact fun _ _ _ h => h
  case hyr3 => exact Or.inl ⟨by rfl, by intro w_ hSw; (try dsimp only at hSw); first | (go_simp; done) | (go_simp; with_reducible rfl)⟩
  try simp only [Act.put, List.setIfInBounds_toArray, List.set_cons_zero, List.set_cons_succ]
  refine wpAnyH_take (i := 4) (oi := ?oir4) (v := ?vr4) ?hir4 (by kernel_rfl) (by kernel_rfl) (by kernel_rfl) ?hQr4 ?hyr4 hHeld ?hr4
  case hir4 => (simp only [List.getElem?_toArray, List.getElem?_cons_succ, List.getElem?_cons_zero]; rfl)
  case hQr4 => exact fun _ _ _ h => h
  case hyr4 => exact Or.inl ⟨by rfl, by intro w_ hSw; (try dsimp only at hSw); first | (go_simp; done) | (go_simp; with_reducible rfl)⟩
  try simp only [Act.put, List.setIfInBounds_toArray, List.set_cons_zero, List.set_cons_succ]
  refine wpAnyH_take (i := 5) (oi := ?oir5) (v := ?vr5) ?hir5 (by kernel_rfl) (by kernel_rfl) (by kernel_rfl) ?hQr5 ?hyr5 hHeld ?hr5
  case hir5 => (simp only [List.getElem?_toArray, List.getElem?_cons_succ, List.getElem?_cons_zero]; rfl)
  case hQr5 => exact fun _ _ _ h => h
  case hyr5 => exact Or.inl ⟨by rfl, by intro w_ hSw; (try dsimp only at hSw); first | (go_simp; done) | (go_simp; with_reducible rfl)⟩
  try simp only [Act.put, List.setIfInBounds_toArray, List.set_cons_zero, List.set_cons_succ]
  refine wpAnyH_take (i := 6) (oi := ?oir6) (v := ?vr6) ?hir6 (by kernel_rfl) (by kernel_rfl) (by kernel_rfl) ?hQr6 ?hyr6 hHeld ?hr6
  case hir6 => (simp only [List.getElem?_toArray, List.getElem?_cons_succ, List.getElem?_cons_zero]; rfl)
  case hQr6 => exact fun _ _ _ h => h
  case hyr6 => exact Or.inl ⟨by rfl, by intro w_ hSw; (try dsimp only at hSw); first | (go_simp; done) | (go_simp; with_reducible rfl)⟩
  try simp only [Act.put, List.setIfInBounds_toArray, List.set_cons_zero, List.set_cons_succ]
  refine wpAnyH_ready (rs := [7]) (by kernel_rfl) (by simp) ?_
  refine AllReadyH.cons (o := ?oc7) ?hc7 (fun K hK => ?hk7) AllReadyH.nil
  case hc7 => (simp only [List.getElem?_toArray, List.getElem?_cons_succ, List.getElem?_cons_zero]; rfl)
  go_simp
  go_wp2
  refine hK.out _ _ ?_ (fun hHeld => ?_)
  · exact ⟨hc0_w3, hc1_w3⟩
  clear hK K
  try simp only [Act.put, List.setIfInBounds_toArray, List.set_cons_zero, List.set_cons_succ]
  refine wpAnyH_take (i := 8) (oi := ?oir8) (v := ?vr8) ?hir8 (by kernel_rfl) (by kernel_rfl) (by kernel_rfl) ?hQr8 ?hyr8 hHeld ?hr8
  case hir8 => (simp only [List.getElem?_toArray, List.getElem?_cons_succ, List.getElem?_cons_zero]; rfl)
  case hQr8 => exact fun _ _ _ h => h
  case hyr8 => exact Or.inl ⟨by rfl, by intro w_ hSw; (try dsimp only at hSw); first | (go_simp; done) | (go_simp; with_reducible rfl)⟩
  try simp only [Act.put, List.setIfInBounds_toArray, List.set_cons_zero, List.set_cons_succ]
  refine wpAnyH_done (by kernel_rfl) ?_ _
  go_wp2
  go_ret2
  exact ⟨by first | rfl | (simp; done), (by repeat (first | (with_reducible first | exact HB.out | apply below_alloc | apply pw_below_drewN | apply below_drew1 | refine below_set ?_ GE.out | refine below_set ?_ GE2.out) | exact HB.out))⟩
theorem cut_string (p : ByteArray) (keep : Int) (h0 : 0 ≤ keep) (h1 : keep ≤ (p.size : Int)) (W : World) : (Instr.slice 9 (.string p) none (some (.int .i64 keep)) none).run Tryd.prog W = .ok (.string (p.extract 0 keep.toNat)) W := by
  rw [run_slice_string_to_if W 9 p .i64 keep Tryd.underlying9, if_pos ⟨h0, h1⟩]
theorem cut_size (p : ByteArray) (m : Nat) (h : m ≤ p.size) : (p.extract 0 m).size = m := by
  rw [ByteArray.size_extract]
  omega
def spec_CrashLog.f (k : Nat) (a0_0 : ByteArray) (a0_1 : ByteArray) (a0_2 : Int) (a1 : Int) (a2 : Bool) : Option (ByteArray × Bool) := (spec_l12Valid.f k a0_0 a0_1 a0_2).bind fun v => if v = true then (if 0 ≤ a1 ∧ a1 ≤ (a0_1.size : Int) then (if a0_0.size + a0_1.size ≤ 9223372036854775807 then (some (a0_0 ++ (if a2 = true ∧ 0 < a1 then turnT (a0_1.extract 0 a1.toNat) (a1.toNat - 1) else a0_1.extract 0 a1.toNat), true)) else none) else (some ((⟨#[]⟩ : ByteArray), false))) else (some ((⟨#[]⟩ : ByteArray), false))
def impl_CrashLog.f (k : Nat) (a0_0 : ByteArray) (a0_1 : ByteArray) (a0_2 : Int) (a1 : Int) (a2 : Bool) : Option (ByteArray × Bool) := (impl_IsValidLog.f k a0_0 a0_1 a0_2).bind fun v => if v = true then (if 0 ≤ a1 ∧ a1 ≤ (a0_1.size : Int) then (if a0_0.size + a0_1.size ≤ 9223372036854775807 then (some ((if a2 = true ∧ 0 < a1 then turnT (a0_0 ++ a0_1.extract 0 a1.toNat) (a0_0.size + a1.toNat - 1) else a0_0 ++ a0_1.extract 0 a1.toNat), true)) else none) else (some ((⟨#[]⟩ : ByteArray), false))) else (some ((⟨#[]⟩ : ByteArray), false))
theorem spec_CrashLog.mono : ∀ a0 a1 a2 a3 a4 k, LeO (spec_CrashLog.f k a0 a1 a2 a3 a4) (spec_CrashLog.f (k + 1) a0 a1 a2 a3 a4) := fun a0 a1 a2 a3 a4 k => LeO.bind (spec_l12Valid.mono a0 a1 a2 k) (fun _ => LeO.refl _)
theorem impl_CrashLog.mono : ∀ a0 a1 a2 a3 a4 k, LeO (impl_CrashLog.f k a0 a1 a2 a3 a4) (impl_CrashLog.f (k + 1) a0 a1 a2 a3 a4) := fun a0 a1 a2 a3 a4 k => LeO.bind (impl_IsValidLog.mono a0 a1 a2 k) (fun _ => LeO.refl _)
theorem spec_CrashLog.calls (k : Nat) (d p : ByteArray) (n keep : Int) (torn : Bool) (r1 : ByteArray) (r2 : Bool) (w : World) (h : spec_CrashLog.f k d p n keep torn = some (r1, r2)) :
    Calls Tryd.prog 26 #[.agg #[.string d, .string p, .int .i64 n], .int .i64 keep, .bool torn] w fun e w' => e = .returned (.tuple #[.string r1, .bool r2]) ∧ Below w.heap.size w w' := by
  obtain ⟨v, hv, h⟩ := Option.bind_eq_some_iff.mp h
  cases v with
  | false =>
    rw [if_neg Bool.false_ne_true] at h
    obtain ⟨rfl, rfl⟩ := Prod.mk.inj (Option.some.inj h)
    exact specCrash_bad k d p n keep torn w hv
  | true =>
    rw [if_pos rfl] at h
    by_cases hk : 0 ≤ keep ∧ keep ≤ (p.size : Int)
    · rw [if_pos hk] at h
      by_cases hs : d.size + p.size ≤ 9223372036854775807
      · rw [if_pos hs] at h
        obtain ⟨rfl, rfl⟩ := Prod.mk.inj (Option.some.inj h)
        have hI : spec_l1In.f keep 0 (p.size : Int) = some true := by unfold spec_l1In.f; rw [if_pos hk.1, decide_eq_true hk.2]
        have hq : (p.extract 0 keep.toNat).size = keep.toNat := cut_size p keep.toNat (by omega)
        have hdq : d.size + (p.extract 0 keep.toNat).size ≤ 9223372036854775807 := by omega
        have hsl := cut_string p keep hk.1 hk.2
        cases torn with
        | false =>
          rw [if_neg (by simp)]
          exact specCrash_same k d p n keep w hv hI (p.extract 0 keep.toNat) hsl hdq
        | true =>
          by_cases h0 : 0 < keep
          · rw [if_pos ⟨rfl, h0⟩]
            exact specCrash_turn k d p n keep w hv hI (p.extract 0 keep.toNat) hsl hdq (keep.toNat - 1) (by omega) h0 (by omega)
          · rw [if_neg (fun h => h0 h.2)]
            exact specCrash_zero k d p n keep w hv hI (p.extract 0 keep.toNat) hsl hdq h0
      · rw [if_neg hs] at h
        cases h
    · rw [if_neg hk] at h
      obtain ⟨rfl, rfl⟩ := Prod.mk.inj (Option.some.inj h)
      refine specCrash_out k d p n keep torn w hv ?_
      unfold spec_l1In.f
      by_cases h0 : keep ≥ 0
      · rw [if_pos h0, decide_eq_false (fun h1 => hk ⟨h0, h1⟩)]
      · rw [if_neg h0]
theorem impl_CrashLog.calls (k : Nat) (d p : ByteArray) (n keep : Int) (torn : Bool) (r1 : ByteArray) (r2 : Bool) (w : World) (hT : XTab w) (h : impl_CrashLog.f k d p n keep torn = some (r1, r2)) :
    Calls Tryd.prog 25 #[.agg #[.string d, .string p, .int .i64 n], .int .i64 keep, .bool torn] w fun e w' => e = .returned (.tuple #[.string r1, .bool r2]) ∧ Below w.heap.size w w' := by
  obtain ⟨v, hv, h⟩ := Option.bind_eq_some_iff.mp h
  cases v with
  | false =>
    rw [if_neg Bool.false_ne_true] at h
    obtain ⟨rfl, rfl⟩ := Prod.mk.inj (Option.some.inj h)
    exact implCrash_bad k d p n keep torn w hT hv
  | true =>
    rw [if_pos rfl] at h
    by_cases hk : 0 ≤ keep ∧ keep ≤ (p.size : Int)
    · rw [if_pos hk] at h
      by_cases hs : d.size + p.size ≤ 9223372036854775807
      · rw [if_pos hs] at h
        obtain ⟨rfl, rfl⟩ := Prod.mk.inj (Option.some.inj h)
        have hq : (p.extract 0 keep.toNat).size = keep.toNat := cut_size p keep.toNat (by omega)
        have hdq : d.size + (p.extract 0 keep.toNat).size ≤ 9223372036854775807 := by omega
        have hsl := cut_string p keep hk.1 hk.2
        cases torn with
        | false =>
          rw [if_neg (by simp)]
          exact implCrash_same k d p n keep w hT hv (by omega) (by omega) (p.extract 0 keep.toNat) hsl hdq
        | true =>
          by_cases h0 : 0 < keep
          · rw [if_pos ⟨rfl, h0⟩]
            exact implCrash_turn k d p n keep w hT hv (by omega) (by omega) (p.extract 0 keep.toNat) hsl hdq (d.size + keep.toNat - 1) (by rw [ByteArray.size_append, hq]; omega) h0
          · rw [if_neg (fun h => h0 h.2)]
            exact implCrash_zero k d p n keep w hT hv (by omega) (by omega) (p.extract 0 keep.toNat) hsl hdq h0
      · rw [if_neg hs] at h
        cases h
    · rw [if_neg hk] at h
      obtain ⟨rfl, rfl⟩ := Prod.mk.inj (Option.some.inj h)
      by_cases h0 : keep < 0
      · exact implCrash_neg k d p n keep torn w hT hv h0
      · exact implCrash_out k d p n keep torn w hT hv h0 (by omega)

end Go.Proofs.YtbonngejmdonfaaDoor.Xc
