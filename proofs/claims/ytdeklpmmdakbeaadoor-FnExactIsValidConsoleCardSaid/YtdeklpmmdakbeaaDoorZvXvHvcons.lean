/- A console by value: its size, its copy, whether it is valid: the reference and the program. -/
import Derived.Test.YtdeklpmmdakbeaaDoorZvXv0
import Derived.Test.YtdeklpmmdakbeaaDoorZvXv1
import Derived.Test.YtdeklpmmdakbeaaDoorZvXv11
import Derived.Test.YtdeklpmmdakbeaaDoorZvXv6
import Derived.Test.YtdeklpmmdakbeaaDoorZvXv8
import Derived.Test.YtdeklpmmdakbeaaDoorZvXvHarr7
import Derived.Test.YtdeklpmmdakbeaaDoorZvXvHgood
import Derived.Test.YtdeklpmmdakbeaaDoorZvXvHitoa
import Derived.Test.YtdeklpmmdakbeaaDoorZvXvHtoy
import Derived.OneCell
import Derived.Lib.SliceRun
import Derived.Shelf.Abstract
import Derived.Outline
import Derived.BigQuiet
import Derived.Deep.QuietTactic
import Derived.RegionTactic
import Derived.BigRegion
namespace Go.Proofs.YtdeklpmmdakbeaaDoor.Xv
open Go.RowKit Go.Proofs.YtdeklpmmdakbeaaDoorW.PrintWords Go.Proofs.YtdeklpmmdakbeaaDoorW.PrintLast Go.Proofs.YtdeklpmmdakbeaaDoorW.PrintMore
attribute [local go_sem] max2_int min2_int max_two min_two max_three min_three max_four min_four
set_option linter.unusedVariables false
set_option linter.unusedSimpArgs false
def yv (p0 p1 p2 : Nat → Int) (cn : Int) : List Value := (y22 p0 p1 p2 cn).map (Value.int .i64)
def lv (d p : ByteArray) (n : Int) : List Value := [.string d, .string p, .int .i64 n]
/-- The cells of a console. -/
def con (p0 p1 p2 : Nat → Int) (cn : Int) (d p : ByteArray) (n : Int) : Array Value := (yv p0 p1 p2 cn ++ lv d p n).toArray
theorem yv_len (p0 p1 p2 : Nat → Int) (cn : Int) : (yv p0 p1 p2 cn).length = 22 := rfl
theorem con_y (p0 p1 p2 : Nat → Int) (cn : Int) (d p : ByteArray) (n : Int) : con p0 p1 p2 cn d p n = ([] ++ yv p0 p1 p2 cn ++ lv d p n).toArray := rfl
theorem con_l (p0 p1 p2 : Nat → Int) (cn : Int) (d p : ByteArray) (n : Int) : con p0 p1 p2 cn d p n = (yv p0 p1 p2 cn ++ lv d p n ++ []).toArray := by rw [List.append_nil]; rfl
/-- The load of some cells in a row, as one value. -/
theorem loadSegV {P : Program} {W : World} {t e : TypeId} {b off n : Nat} {pre seg post : List Value} (hagg : (isAgg t).run P W = .ok true W) (hsz : (sizeOf t).run P W = .ok n W) (hn : seg.length = n) (hl : pre.length = off) (h : W.heap[b]? = some (.cells (pre ++ seg ++ post).toArray e (0, 0))) : (Instr.loadAt t (.pointer (some ⟨b, off, none⟩))).run P W = .ok (.agg seg.toArray) W := by
  have hlc : (loadCells ⟨b, off, none⟩ seg.length).run P W = .ok seg.toArray W := run_loadCells_list (P := P) (w := W) ⟨b, off, none⟩ seg (fun j v hv => by
    have hadd : (⟨b, off, none⟩ : Addr).add j = ⟨b, off + j, none⟩ := by unfold Addr.add; split <;> simp_all
    rw [hadd, blk_cell h, List.getElem?_toArray, List.append_assoc, List.getElem?_append_right (by omega), hl, Nat.add_sub_cancel_left]
    rw [List.getElem?_append_left (by rcases Nat.lt_or_ge j seg.length with h_ | h_; exact h_; rw [List.getElem?_eq_none h_] at hv; cases hv)]
    exact hv)
  simp only [Instr.loadAt, Instr.sureAddr, loadVar, Sem.run_bind, Sem.run_pure, Result.andThen_ok, hagg, hsz, ↓reduceIte]
  rw [← hn, hlc]
  rfl
/-- An operation whose guard is met. -/
theorem event_run_on {P : Program} {ops : Array Oper} {rest : List Oper} {o : Oper} {a : Act} {Q : Exit → Act → World → Prop} {W w1 : World} {v : Value} (hw : Region.wanted o (yielded ops a.tmps) = true) (hrun : (execOp a.eval o).run P W = .ok (.value v) w1) (h : wpList P ops Q rest (a.put o.dst v) w1) : wpList P ops Q (o :: rest) a W := by
  refine wpList_step fun K hK => ?_
  rw [if_pos hw]
  unfold Oper.wp
  rw [hrun]
  exact hK _ _ h
/-- The store of some cells in a row into a block. -/
theorem storeSegV {ops : Array Oper} {rest : List Oper} {o : Oper} {a : Act} {Q : Exit → Act → World → Prop} {W : World} (hgd : o.guard = none) (hN : o.dst = none) (t : TypeId) (x y : Operand) (ho : o.op = .store t x y) (b off : Nat) (L S N R : List Value)
    (hx : a.eval x = .pointer (some ⟨b, off, none⟩)) (hy : a.eval y = .agg N.toArray) (e : TypeId) (hh : W.heap[b]? = some (.cells (L ++ S ++ R).toArray e (0, 0))) (hl : L.length = off) (hs : S.length = N.length) (hsz : (Tryd.prog.info? t).map (·.size) = some N.length) (h1 : ∀ q ∈ N, q.oneCell' = true)
    (h : ∀ w2, w2.heap[b]? = some (.cells (L ++ N ++ R).toArray e (0, 0)) → Only W w2 b → wpList Tryd.prog ops Q rest a w2) : wpList Tryd.prog ops Q (o :: rest) a W := by
  refine wpList_plain hgd fun K hK => ?_
  have hfit : off + N.length ≤ (L ++ S ++ R).toArray.size := by simp only [List.size_toArray, List.length_append]; omega
  have hr := run_store_run (P := Tryd.prog) (w := W) (g := b) (o := off) t (.agg N.toArray) N (e := e) (cur := (L ++ S ++ R).toArray) hh (by simp [Value.cells]) hsz hfit h1
  obtain ⟨cur', e1, e2, e3⟩ := setCells_row N off W _ hh hfit
  obtain ⟨s1, s2, s3, s4⟩ := setCells_same b N off W
  unfold Oper.wp execOp
  simp only [ho, hx, hy, Sem.run_bind, hr, Result.andThen_ok, Sem.run_pure]
  show K (a.put o.dst undef) _
  rw [hN]
  have hcur : cur'.toList = (L ++ N ++ R).toArray.toList := by
    rw [e3]
    simp only [List.append_assoc]
    rw [List.take_left' hl, ← List.drop_drop, List.drop_left' hl, List.drop_left' hs]
  rw [Array.toList_inj.1 hcur] at e1
  exact hK _ _ (h _ e1 ⟨s1, s2, s3, s4, fun k hk => setCells_far _ _ k hk⟩)
theorem yv_one (p0 p1 p2 : Nat → Int) (cn : Int) : ∀ q ∈ yv p0 p1 p2 cn, q.oneCell' = true := fun q hq => by
  obtain ⟨z, _, rfl⟩ := List.mem_map.1 hq
  rfl
theorem lv_one (d p : ByteArray) (n : Int) : ∀ q ∈ lv d p n, q.oneCell' = true := fun q hq => by
  simp only [lv, List.mem_cons, List.not_mem_nil, or_false] at hq
  rcases hq with rfl | rfl | rfl <;> rfl
def z25 : Array Value := con (fun _ => 0) (fun _ => 0) (fun _ => 0) 0 ByteArray.empty ByteArray.empty 0
set_option maxHeartbeats 8000000 in
set_option maxRecDepth 100000 in
theorem szConsole_walk (p0 p1 p2 : Nat → Int) (cn : Int) (d p : ByteArray) (n : Int) (a r : Int) (w : World) (h : laws_szLog.f d p n a = some r) :
    Calls Tryd.prog 4 #[.agg (con p0 p1 p2 cn d p n), .int .i64 a] w fun e w' => e = .returned (.int .i64 (if r < 0 then -1 else r)) ∧ Below w.heap.size w w' := by
  have H := Aside0.mk h
  have Z1 := Aside0.mk (blk_new w (.cells (con p0 p1 p2 cn d p n) 28))
  have B1 := Aside0.mk (below_alloc (Below.refl w.heap.size w) (.cells (con p0 p1 p2 cn d p n) 28))
  clear h
  by_cases h2 : r < 0
  · rw [if_pos h2]
    have hd : decide (r < 0) = true := decide_eq_true h2
    go_enter Tryd.func4, Tryd.ntmps4
    go_wp2_with (first
      | ((with_reducible refine gate_dst (N := 6) rfl ?_); refine Kd.event_run rfl (execLoad (addr := .pointer (some ⟨w.heap.size, 22, none⟩)) (v := .agg #[.string d, .string p, .int .i64 n]) rfl rfl (loadSegV (pre := yv p0 p1 p2 cn) (seg := lv d p n) (post := []) (by kernel_rfl) (by kernel_rfl) rfl rfl (by have h_ := Z1.out; rw [con_l] at h_; exact h_))) ?_)
      | (go_at_call 8; (refine (laws_szLog.calls d p n a r _ H.out).mono ?_); rintro e w2 ⟨rfl, hb⟩; have B2 := Aside0.mk (below_step B1.out hb); clear hb))
    go_ret
    exact ⟨rfl, B2.out⟩
  · rw [if_neg h2]
    have hd : decide (r < 0) = false := decide_eq_false h2
    go_enter Tryd.func4, Tryd.ntmps4
    go_wp2_with (first
      | ((with_reducible refine gate_dst (N := 6) rfl ?_); refine Kd.event_run rfl (execLoad (addr := .pointer (some ⟨w.heap.size, 22, none⟩)) (v := .agg #[.string d, .string p, .int .i64 n]) rfl rfl (loadSegV (pre := yv p0 p1 p2 cn) (seg := lv d p n) (post := []) (by kernel_rfl) (by kernel_rfl) rfl rfl (by have h_ := Z1.out; rw [con_l] at h_; exact h_))) ?_)
      | (go_at_call 8; (refine (laws_szLog.calls d p n a r _ H.out).mono ?_); rintro e w2 ⟨rfl, hb⟩; have B2 := Aside0.mk (below_step B1.out hb); clear hb))
    go_ret
    exact ⟨rfl, B2.out⟩
set_option maxHeartbeats 8000000 in
set_option maxRecDepth 100000 in
theorem toConsole_walk (p0 p1 p2 : Nat → Int) (cn : Int) (d p : ByteArray) (n : Int) (w : World) :
    Calls Tryd.prog 6 #[.agg (con p0 p1 p2 cn d p n)] w fun e w' => e = .returned (.agg (con p0 p1 p2 cn d p n)) ∧ Below w.heap.size w w' := by
  have hu := Tryd.underlying34
  have hi : (Tryd.prog.info? 34).map (·.size) = some 25 := by kernel_rfl
  have z1 := blk_new w (.cells (con p0 p1 p2 cn d p n) 28)
  have z2 := blk_new (w.alloc (.cells (con p0 p1 p2 cn d p n) 28)) (.cells z25 34)
  have z3 := blk_new ((w.alloc (.cells (con p0 p1 p2 cn d p n) 28)).alloc (.cells z25 34)) (.cells z25 34)
  rw [World.size_alloc, World.size_alloc] at z3
  rw [World.size_alloc] at z2
  have Z1 := Aside0.mk (blk_alloc (blk_alloc z1 (.cells z25 34)) (.cells z25 34))
  have R1 := Aside0.mk (blk_alloc z2 (.cells z25 34))
  have Y1 := Aside0.mk z3
  have B1 := Aside0.mk (below_alloc (below_alloc (below_alloc (Below.refl w.heap.size w) (.cells (con p0 p1 p2 cn d p n) 28)) (.cells z25 34)) (.cells z25 34))
  have hlog : laws_toLog.f d p n = some (d, p, n) := rfl
  have HLOG := Aside0.mk hlog
  clear z1 z2 z3 hlog
  go_enter Tryd.func6, Tryd.ntmps6
  go_wp2_with (first
    | ((with_reducible refine gate_dst (N := 5) rfl ?_); refine Kd.event_run rfl (execLoad (addr := .pointer (some ⟨w.heap.size, 0, none⟩)) (v := .agg (arr (y22 p0 p1 p2 cn))) rfl rfl (loadSegV (pre := []) (seg := yv p0 p1 p2 cn) (post := lv d p n) (by kernel_rfl) (by kernel_rfl) rfl rfl (by have h_ := Z1.out; rw [con_y] at h_; exact h_))) ?_)
    | (go_at_call 11; (refine (toYard_walk p0 p1 p2 cn _).mono ?_); rintro e w2 ⟨rfl, hb⟩; have Y2 := Aside0.mk ((hb.block _ (lt_of_block Y1.out)).trans Y1.out); have Z2 := Aside0.mk ((hb.block _ (lt_of_block Z1.out)).trans Z1.out); have R2 := Aside0.mk ((hb.block _ (lt_of_block R1.out)).trans R1.out); have B2 := Aside0.mk (below_step B1.out hb); clear hb)
    | ((with_reducible refine gate_store (t := 31) (p := 7) rfl ?_); refine storeSegV rfl rfl 31 (.tmp 7) (.tmp 6) rfl (w.heap.size + 1 + 1) 0 [] (yv (fun _ => 0) (fun _ => 0) (fun _ => 0) 0) (yv p0 p1 p2 cn) (lv ByteArray.empty ByteArray.empty 0) rfl rfl 34 Y2.out rfl rfl (by kernel_rfl) (yv_one _ _ _ _) ?_; intro w3 hh ho; have Y3 := Aside0.mk hh; have Z3 := Aside0.mk (ho.blk (by omega) Z2.out); have R3 := Aside0.mk (ho.blk (by omega) R2.out); have B3 := Aside0.mk (ho.below B2.out (by omega)); clear hh ho)
    | ((with_reducible refine gate_dst (N := 9) rfl ?_); refine Kd.event_run rfl (execLoad (addr := .pointer (some ⟨w.heap.size, 22, none⟩)) (v := .agg #[.string d, .string p, .int .i64 n]) rfl rfl (loadSegV (pre := yv p0 p1 p2 cn) (seg := lv d p n) (post := []) (by kernel_rfl) (by kernel_rfl) rfl rfl (by have h_ := Z3.out; rw [con_l] at h_; exact h_))) ?_)
    | (go_at_call 12; (refine (laws_toLog.calls d p n d p n _ HLOG.out).mono ?_); rintro e w4 ⟨rfl, hb⟩; have Y4 := Aside0.mk ((hb.block _ (lt_of_block Y3.out)).trans Y3.out); have R4 := Aside0.mk ((hb.block _ (lt_of_block R3.out)).trans R3.out); have B4 := Aside0.mk (below_step B3.out hb); clear hb)
    | ((with_reducible refine gate_store (t := 32) (p := 11) rfl ?_); refine storeSegV rfl rfl 32 (.tmp 11) (.tmp 10) rfl (w.heap.size + 1 + 1) 22 (yv p0 p1 p2 cn) (lv ByteArray.empty ByteArray.empty 0) (lv d p n) [] rfl rfl 34 (by have h_ := Y4.out; rw [List.nil_append] at h_; rw [List.append_nil]; exact h_) rfl rfl (by kernel_rfl) (lv_one _ _ _) ?_; intro w5 hh ho; have Y5 := Aside0.mk (show w5.heap[w.heap.size + 1 + 1]? = some (.cells (con p0 p1 p2 cn d p n) 34 (0, 0)) from by rw [con_l]; exact hh); have R5 := Aside0.mk (ho.blk (by omega) R4.out); have B5 := Aside0.mk (ho.below B4.out (by omega)); clear hh ho)
    | ((with_reducible refine gate_dst (N := 12) rfl ?_); refine load_row_event rfl 34 (.tmp 3) rfl (w.heap.size + 1 + 1) rfl 34 (con p0 p1 p2 cn d p n) _ Y5.out hu rfl hi ?_)
    | ((with_reducible refine gate_store (t := 34) (p := 2) rfl ?_); refine store_row_event rfl rfl 34 (.tmp 2) (.tmp 12) rfl (w.heap.size + 1) (con p0 p1 p2 cn d p n) rfl rfl 34 _ R5.out hi rfl (by kernel_rfl) ?_; intro w6 hh ho; have R6 := Aside0.mk hh; have B6 := Aside0.mk (ho.below B5.out (by omega)); clear hh ho))
  refine bodyPost_ret (v := .agg (con p0 p1 p2 cn d p n)) ?_ rfl ?_
  · exact results_single (r := .cell 2 34) rfl (.cell (w.heap.size + 1) 34 (con p0 p1 p2 cn d p n) (0, 0) _ rfl R6.out hu rfl (by kernel_rfl) .nil)
  · exact ⟨rfl, B6.out⟩
set_option maxHeartbeats 8000000 in
set_option maxRecDepth 100000 in
theorem specValid_walk (k1 k2 : Nat) (p0 p1 p2 : Nat → Int) (cn : Int) (d p : ByteArray) (n : Int) (b1 b2 : Bool) (w : World) (h1 : goodF k1 p0 p1 p2 cn = some b1) (h2 : spec_l12Valid.f k2 d p n = some b2) :
    Calls Tryd.prog 5 #[.agg (con p0 p1 p2 cn d p n)] w fun e w' => e = .returned (.bool (b1 && b2)) ∧ Below w.heap.size w w' := by
  have H1 := Aside0.mk h1
  have H2 := Aside0.mk h2
  have Z1 := Aside0.mk (blk_new w (.cells (con p0 p1 p2 cn d p n) 34))
  have B1 := Aside0.mk (below_alloc (Below.refl w.heap.size w) (.cells (con p0 p1 p2 cn d p n) 34))
  clear h1 h2
  cases b1 with
  | true =>
    go_enter Tryd.func5, Tryd.ntmps5
    go_wp2_with (first
      | ((with_reducible refine gate_dst (N := 4) rfl ?_); refine Kd.event_run rfl (execLoad (addr := .pointer (some ⟨w.heap.size, 0, none⟩)) (v := .agg (arr (y22 p0 p1 p2 cn))) rfl rfl (loadSegV (pre := []) (seg := yv p0 p1 p2 cn) (post := lv d p n) (by kernel_rfl) (by kernel_rfl) rfl rfl (by have h_ := Z1.out; rw [con_y] at h_; exact h_))) ?_)
      | (go_at_call 9; (refine (l12Good_walk k1 p0 p1 p2 cn true _ H1.out).mono ?_); rintro e w2 ⟨rfl, hb⟩; have B2 := Aside0.mk (below_step B1.out hb); have Z2 := Aside0.mk ((hb.block _ (lt_of_block Z1.out)).trans Z1.out); clear hb)
      | ((with_reducible refine gate_dst (N := 8) rfl ?_); refine event_run_on (by rfl) (execLoad (addr := .pointer (some ⟨w.heap.size, 22, none⟩)) (v := .agg #[.string d, .string p, .int .i64 n]) rfl rfl (loadSegV (pre := yv p0 p1 p2 cn) (seg := lv d p n) (post := []) (by kernel_rfl) (by kernel_rfl) rfl rfl (by have h_ := Z2.out; rw [con_l] at h_; exact h_))) ?_)
      | (go_at_call 10; (refine (spec_l12Valid.calls k2 d p n b2 _ H2.out).mono ?_); rintro e w3 ⟨rfl, hb⟩; have B3 := Aside0.mk (below_step B2.out hb); clear hb))
    go_ret
    exact ⟨rfl, B3.out⟩
  | false =>
    go_enter Tryd.func5, Tryd.ntmps5
    go_wp2_with (first
      | ((with_reducible refine gate_dst (N := 4) rfl ?_); refine Kd.event_run rfl (execLoad (addr := .pointer (some ⟨w.heap.size, 0, none⟩)) (v := .agg (arr (y22 p0 p1 p2 cn))) rfl rfl (loadSegV (pre := []) (seg := yv p0 p1 p2 cn) (post := lv d p n) (by kernel_rfl) (by kernel_rfl) rfl rfl (by have h_ := Z1.out; rw [con_y] at h_; exact h_))) ?_)
      | (go_at_call 9; (refine (l12Good_walk k1 p0 p1 p2 cn false _ H1.out).mono ?_); rintro e w2 ⟨rfl, hb⟩; have B2 := Aside0.mk (below_step B1.out hb); have Z2 := Aside0.mk ((hb.block _ (lt_of_block Z1.out)).trans Z1.out); clear hb))
    go_ret
    exact ⟨rfl, B2.out⟩
set_option maxHeartbeats 8000000 in
set_option maxRecDepth 100000 in
theorem implValid_walk (k1 k2 : Nat) (p0 p1 p2 : Nat → Int) (cn : Int) (d p : ByteArray) (n : Int) (b1 b2 : Bool) (w : World) (hT : XTab w) (h1 : partsF k1 p0 p1 p2 cn = some b1) (h2 : impl_IsValidLog.f k2 d p n = some b2) :
    Calls Tryd.prog 7 #[.agg (con p0 p1 p2 cn d p n)] w fun e w' => e = .returned (.bool (b1 && b2)) ∧ Below w.heap.size w w' := by
  have H1 := Aside0.mk h1
  have H2 := Aside0.mk h2
  have HT := Aside0.mk hT
  clear hT
  have Z1 := Aside0.mk (blk_new w (.cells (con p0 p1 p2 cn d p n) 34))
  have B1 := Aside0.mk (below_alloc (Below.refl w.heap.size w) (.cells (con p0 p1 p2 cn d p n) 34))
  clear h1 h2
  cases b1 with
  | true =>
    go_enter Tryd.func7, Tryd.ntmps7
    go_wp2_with (first
      | ((with_reducible refine gate_dst (N := 4) rfl ?_); refine Kd.event_run rfl (execLoad (addr := .pointer (some ⟨w.heap.size, 0, none⟩)) (v := .agg (arr (y22 p0 p1 p2 cn))) rfl rfl (loadSegV (pre := []) (seg := yv p0 p1 p2 cn) (post := lv d p n) (by kernel_rfl) (by kernel_rfl) rfl rfl (by have h_ := Z1.out; rw [con_y] at h_; exact h_))) ?_)
      | (go_at_call 13; (refine (implIsYard_walk k1 p0 p1 p2 cn true _ H1.out).mono ?_); rintro e w2 ⟨rfl, hb⟩; have B2 := Aside0.mk (below_step B1.out hb); have Z2 := Aside0.mk ((hb.block _ (lt_of_block Z1.out)).trans Z1.out); clear hb)
      | ((with_reducible refine gate_dst (N := 8) rfl ?_); refine event_run_on (by rfl) (execLoad (addr := .pointer (some ⟨w.heap.size, 22, none⟩)) (v := .agg #[.string d, .string p, .int .i64 n]) rfl rfl (loadSegV (pre := yv p0 p1 p2 cn) (seg := lv d p n) (post := []) (by kernel_rfl) (by kernel_rfl) rfl rfl (by have h_ := Z2.out; rw [con_l] at h_; exact h_))) ?_)
      | (go_at_call 14; (refine (impl_IsValidLog.calls k2 d p n b2 _ (XTab.below HT.out B2.out) H2.out).mono ?_); rintro e w3 ⟨rfl, hb⟩; have B3 := Aside0.mk (below_step B2.out hb); clear hb))
    go_ret
    exact ⟨rfl, B3.out⟩
  | false =>
    go_enter Tryd.func7, Tryd.ntmps7
    go_wp2_with (first
      | ((with_reducible refine gate_dst (N := 4) rfl ?_); refine Kd.event_run rfl (execLoad (addr := .pointer (some ⟨w.heap.size, 0, none⟩)) (v := .agg (arr (y22 p0 p1 p2 cn))) rfl rfl (loadSegV (pre := []) (seg := yv p0 p1 p2 cn) (post := lv d p n) (by kernel_rfl) (by kernel_rfl) rfl rfl (by have h_ := Z1.out; rw [con_y] at h_; exact h_))) ?_)
      | (go_at_call 13; (refine (implIsYard_walk k1 p0 p1 p2 cn false _ H1.out).mono ?_); rintro e w2 ⟨rfl, hb⟩; have B2 := Aside0.mk (below_step B1.out hb); have Z2 := Aside0.mk ((hb.block _ (lt_of_block Z1.out)).trans Z1.out); clear hb))
    go_ret
    exact ⟨rfl, B2.out⟩

end Go.Proofs.YtdeklpmmdakbeaaDoor.Xv
